/- What sat.Mul and sat.Share come to. -/
import Derived.Test.YtjjhdfpdoopedaaPGGrowx1
import Derived.Test.YtjjhdfpdoopedaaPGGrowx1
import Derived.Test.YtjjhdfpdoopedaaWd
namespace Go.Proofs.Ytjjhdfpdoopedaa.SatOfGGrow
open Go.RowKit Go.Proofs.Ytjjhdfpdoopedaa.PGGrow Go.Proofs.YtjjhdfpdoopedaaW.PrintWords Go.Proofs.YtjjhdfpdoopedaaW.PrintLast Go.Proofs.YtjjhdfpdoopedaaW.PrintMore Go.Proofs.Ytjjhdfpdoopedaa.SatMath Go.Proofs.Ytjjhdfpdoopedaa.Wd
set_option linter.unusedVariables false
set_option linter.unusedSimpArgs false

theorem wide_f {a b : Int} (ha : Wd a) (hb : Wd b) : sat_wide.f a b = some (a * b / 18446744073709551616, a * b % 18446744073709551616) := by
  unfold sat_wide.f
  rw [wide_hi ha.1 ha.2 hb.1 hb.2, wide_lo]
theorem mul_f {a b : Int} (ha : Wd a) (hb : Wd b) : sat_Mul.f a b = some (cap (a * b)) := by
  unfold sat_Mul.f
  rw [wide_f ha hb, Option.bind_some]
  have hm := mul_bound ha.1 ha.2 hb.1 hb.2
  generalize a * b = n at *
  unfold cap
  by_cases h : n ≤ 18446744073709551615
  · rw [if_neg (by dsimp only; omega), if_pos h]; congr 1; dsimp only; omega
  · rw [if_pos (by dsimp only; omega), if_neg h]
theorem share_f {a b : Int} (ha : Wd a) (hb : Wd b) : sat_Share.f a b = some (cap (a * b / 65536)) := by
  unfold sat_Share.f
  rw [wide_f ha hb, Option.bind_some]
  have hm := mul_bound ha.1 ha.2 hb.1 hb.2
  generalize a * b = n at *
  dsimp only
  by_cases h : n / 18446744073709551616 ≥ 65536
  · rw [if_pos h]; unfold cap; rw [if_neg (by omega)]
  · rw [if_neg h, share_parts hm.1 hm.2 h]; unfold cap; rw [if_pos (by omega)]
end Go.Proofs.Ytjjhdfpdoopedaa.SatOfGGrow
