/- SatMonotone: for all words, who adds, multiplies or shares more gets no less; the order of two is of no matter; the whole share is all, the empty one nothing. No condition beyond the row's own. -/
import Derived.Test.YtjjhdfpdoopedaaPSatx2
import Derived.Test.YtjjhdfpdoopedaaSatFacts
namespace Go.Proofs.Ytjjhdfpdoopedaa.Pure
open Go.RowKit Go.Proofs.Ytjjhdfpdoopedaa.PSat Go.Proofs.YtjjhdfpdoopedaaW.PrintWords Go.Proofs.YtjjhdfpdoopedaaW.PrintLast Go.Proofs.Ytjjhdfpdoopedaa.SatFacts Go.Proofs.Ytjjhdfpdoopedaa.SatMath

theorem cap_mono {x y : Int} (h : x ≤ y) : ¬ cap x > cap y := by unfold cap; split <;> split <;> omega

theorem order {a b c : Int} (wa : Wd a) (wb : Wd b) (wc : Wd c) (h : b ≤ c) : watersmeetlaw02_SatMonotone.j0 2 a b c = some true := by
  have m1 : a * b ≤ a * c := Int.mul_le_mul_of_nonneg_left h wa.1
  have n1 : 0 ≤ a * b := Int.mul_nonneg wa.1 wb.1
  simp only [watersmeetlaw02_SatMonotone.j0, watersmeetlaw02_SatMonotone.j1]
  rw [add_two wa wb, add_two wa wc, add_two wb wa, mul_f wa wb, mul_f wa wc, mul_f wb wa, share_f wa wb, share_f wa wc, share_f wb wa, share_f wc wa, share_f wa (b := 65536) ⟨by omega, by omega⟩, share_f wa (b := 0) ⟨by omega, by omega⟩, awake]
  simp only [Option.bind_some]
  rw [Int.mul_comm b a, Int.mul_comm c a, Int.add_comm b a]
  rw [if_neg (cap_mono (by omega)), if_neg (cap_mono m1), if_neg (cap_mono (by omega))]
  have e1 : decide (cap (a * b / 65536) > cap (a * c / 65536)) = false := decide_eq_false (cap_mono (by omega))
  rw [e1]
  have e2 : cap (a * 65536 / 65536) = a := by rw [Int.mul_ediv_cancel _ (by omega), cap_id wa.2]
  have e3 : cap (a * 0 / 65536) = 0 := by rw [Int.mul_zero]; decide
  have e4 : cap (a + b) ≥ a := by have := wa.1; have := wa.2; have := wb.1; unfold cap; split <;> omega
  rw [e2, e3]
  simp [e4]

theorem SatMonotone : watersmeetlaw02_SatMonotone.Pure := by
  intro a b c ha hb hc
  refine ⟨2, ?_⟩
  unfold watersmeetlaw02_SatMonotone.f
  by_cases h : b > c
  · rw [if_pos h]; exact order (wd_of ha) (wd_of hc) (wd_of hb) (by omega)
  · rw [if_neg h]; exact order (wd_of ha) (wd_of hb) (wd_of hc) (by omega)
end Go.Proofs.Ytjjhdfpdoopedaa.Pure
