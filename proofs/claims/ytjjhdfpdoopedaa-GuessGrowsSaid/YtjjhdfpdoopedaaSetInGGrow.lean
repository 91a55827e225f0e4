/- What sets.List and sets.In come to, for words. -/
import Derived.Test.YtjjhdfpdoopedaaPGGrowx1
import Derived.Test.YtjjhdfpdoopedaaPGGrowx1
import Derived.Test.YtjjhdfpdoopedaaMembers
namespace Go.Proofs.Ytjjhdfpdoopedaa.SetInGGrow
open Go.RowKit Go.Proofs.Ytjjhdfpdoopedaa.PGGrow Go.Proofs.YtjjhdfpdoopedaaW.PrintWords Go.Proofs.YtjjhdfpdoopedaaW.PrintLast Go.Proofs.YtjjhdfpdoopedaaW.PrintMore Go.Proofs.Ytjjhdfpdoopedaa.Bits
set_option linter.unusedVariables false
set_option linter.unusedSimpArgs false

theorem list_f {a : Nat} (ha : a < 18446744073709551616) : sets_List.f (a : Int) = some (mem a.testBit 0 64) := by
  unfold sets_List.f sets_members.upto
  rw [List.range_eq_range']
  show some (mem (sets_members.has (a : Int)) 0 64) = _
  congr 1
  apply mem_congr
  intro j _ hj
  unfold sets_members.has
  have h1 : (2 : Nat) ^ j < 18446744073709551616 := by rw [← pow64]; exact Nat.pow_lt_pow_right (by omega) (by omega)
  have e : IntKind.u64.wrap ((2 : Int) ^ j) = ((2 ^ j : Nat) : Int) := by
    have : ((2 : Int) ^ j) = ((2 ^ j : Nat) : Int) := by norm_cast
    rw [this, u64_nat h1]
  rw [e, has_cast ha (by omega)]
theorem in_f {a b : Nat} (ha : a < 18446744073709551616) (hb : b < 18446744073709551616) : sets_In.f (a : Int) (b : Int) = some (inB a b) := by
  unfold sets_In.f inB
  rw [less_cast ha hb]
  apply congrArg
  rw [Bool.eq_iff_iff]
  simp only [beq_iff_eq]
  omega
end Go.Proofs.Ytjjhdfpdoopedaa.SetInGGrow
