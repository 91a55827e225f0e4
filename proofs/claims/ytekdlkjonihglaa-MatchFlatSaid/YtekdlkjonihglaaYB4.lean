/- Words and lists of numbers, taken up from an argument's reading. -/
import Derived.Test.YtekdlkjonihglaaYB2
namespace Go.Proofs.Ytekdlkjonihglaa.AL
open Go Go.RowKit
theorem rU64 (n : Nat) : RUp Try.prog n 37 1 (AV.int .u64) (fun x => (Lit.int .u64 x).wf = true) := rint Try.underlying37
theorem rInts (n : Nat) : RUp Try.prog n 38 1 (fun xs : List Int => AV.sl 1 (xs.map (.int .i64))) (fun _ => True) :=
  RUp.weak ((rslice (b := 8) Try.underlying38 (by decide) (by kernel_rfl) (by kernel_rfl) (rint Try.underlying3 (n := n))).le (Nat.le_succ n)) (fun _ _ => trivial)
theorem u64_nat {x : Int} (h : (Lit.int .u64 x).wf = true) : ∃ m : Nat, m < 18446744073709551616 ∧ x = (m : Int) := by
  have h' : 0 ≤ x ∧ x ≤ 18446744073709551615 := by
    simpa [Lit.wf, IntKind.min, IntKind.max, IntKind.signed, IntKind.bits] using h
  exact ⟨x.toNat, by omega, by omega⟩
end Go.Proofs.Ytekdlkjonihglaa.AL
