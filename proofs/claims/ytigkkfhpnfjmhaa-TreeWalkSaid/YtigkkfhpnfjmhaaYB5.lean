/- Bytes, taken up from an argument's reading. -/
import Derived.Test.YtigkkfhpnfjmhaaYB2
namespace Go.Proofs.Ytigkkfhpnfjmhaa.AL
open Go Go.RowKit
theorem rU8 (n : Nat) : RUp Try.prog n 5 1 (AV.int .u8) (fun x => (Lit.int .u8 x).wf = true) := rint Try.underlying5
theorem u8_nat {x : Int} (h : (Lit.int .u8 x).wf = true) : ∃ m : Nat, m ≤ 255 ∧ x = (m : Int) := by
  have h' : 0 ≤ x ∧ x ≤ 255 := by
    simpa [Lit.wf, IntKind.min, IntKind.max, IntKind.signed, IntKind.bits] using h
  exact ⟨x.toNat, by omega, by omega⟩
end Go.Proofs.Ytigkkfhpnfjmhaa.AL
