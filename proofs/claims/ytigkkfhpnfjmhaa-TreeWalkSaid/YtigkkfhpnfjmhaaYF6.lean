/- Contracts: what a term is, by the reference. -/
import Derived.Test.YtigkkfhpnfjmhaaYF5
namespace Go.Proofs.Ytigkkfhpnfjmhaa.AL
open Go
set_option linter.unusedVariables false
set_option linter.unusedSimpArgs false
set_option maxRecDepth 4000
theorem len_of {M : Mem} {sz : Nat} {xs : List AV} {v : Value} (h : R M (.sl sz xs) v) : xs.length ≤ 9223372036854775807 := by
  rcases sl_inv h with ⟨rfl, _⟩ | ⟨b, off, cap, vs, _, q1, q2, _⟩
  · simp
  · unfold maxLen at q2; omega
end Go.Proofs.Ytigkkfhpnfjmhaa.AL
