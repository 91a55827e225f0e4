/- Laid by a program of this session over the printer of the kit: contracts of functions of the given program, and rows of laws. Lean checks it. -/
import Derived.Test.YtigkkfhpnfjmhaaPRejGx0
namespace Go.Proofs.Ytigkkfhpnfjmhaa.PRejG
open Go.RowKit Go.Proofs.YtigkkfhpnfjmhaaW.PrintWords Go.Proofs.YtigkkfhpnfjmhaaW.PrintLast Go.Proofs.YtigkkfhpnfjmhaaW.PrintMore
attribute [local go_sem] max2_int min2_int max_two min_two max_three min_three max_four min_four   -- for this text's walks alone
set_option linter.unusedVariables false
set_option linter.unusedSimpArgs false

theorem eqA39 (d : Nat) (w : World) (x0 y0 : Bool) (x1 y1 : Bool) (x2 y2 : Bool) :
    (Op.equalIn (d + 2) 39 (.agg #[.bool x0, .bool x1, .bool x2]) (.agg #[.bool y0, .bool y1, .bool y2])).run Try.prog w = .ok (x0 == y0 && (x1 == y1 && (x2 == y2))) w := by
  have hu := Try.underlying39
  have he : ∀ a b : Bool, (Op.equalIn (d + 1) 4 (.bool a) (.bool b)).run Try.prog w = .ok (a == b) w := by intro a b; go_simp
  unfold Op.equalIn
  go_simp
  simp only [List.range', List.forIn_cons, List.forIn_nil, List.getElem?_cons_zero, List.getElem?_cons_succ]
  go_simp
  by_cases h0 : x0 = y0
  · subst h0
    by_cases h1 : x1 = y1
    · subst h1
      by_cases h2 : x2 = y2
      · subst h2
        simp [he]
      · simp [he, h2]
    · simp [he, h1]
  · simp [he, h0]
end Go.Proofs.Ytigkkfhpnfjmhaa.PRejG
