/- Words, and numbers that stop at the greatest one. No program. -/
import Derived.Test.YtjjhdfpdoopedaaSatMath
import Derived.RowKit
namespace Go.Proofs.Ytjjhdfpdoopedaa.Wd
open Go Go.RowKit Go.Proofs.Ytjjhdfpdoopedaa.SatMath
set_option linter.unusedVariables false

/-- A word. -/
def Wd (n : Int) : Prop := 0 ≤ n ∧ n < 18446744073709551616
theorem wd_of {n : Int} (h : (Lit.int .u64 n).wf = true) : Wd n := by
  have hmin : IntKind.u64.min = 0 := rfl
  have hmax : IntKind.u64.max = 18446744073709551615 := rfl
  simp only [Lit.wf, Bool.and_eq_true, decide_eq_true_eq] at h
  exact ⟨by omega, by omega⟩
theorem cap_wd {n : Int} (h : 0 ≤ n) : Wd (cap n) := by unfold cap Wd; split <;> omega
theorem cap_id {n : Int} (h : n < 18446744073709551616) : cap n = n := by unfold cap; rw [if_pos (by omega)]

theorem cap_cap (x y : Int) (hx : 0 ≤ x) (hy : 0 ≤ y) : cap (cap x + cap y) = cap (x + y) := by unfold cap; split <;> split <;> split <;> (try split) <;> omega
theorem cap_cap' (x y : Int) (hx : 0 ≤ x) (hy : 0 ≤ y) : cap (cap x + y) = cap (x + y) := by unfold cap; split <;> split <;> (try split) <;> omega
end Go.Proofs.Ytjjhdfpdoopedaa.Wd
