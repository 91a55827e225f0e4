/- One step of a counted loop over a list. No program. -/
import Derived.Test.YtigkkfhpnfjmhaaWWords
import Derived.Test.YtigkkfhpnfjmhaaBits
namespace Go.Proofs.Ytigkkfhpnfjmhaa.Bits
open Go Go.RowKit Go.Proofs.YtigkkfhpnfjmhaaW.PrintWords
set_option linter.unusedVariables false

theorem rd_nat {l : List Int} {i : Nat} (h : i < l.length) : rd l (i : Int) = l[i] := by simp [rd, h]
theorem wrap_succ {i : Nat} (h : i < 9223372036854775807) : wrap64 ((i : Int) + 1) = ((i + 1 : Nat) : Int) := by unfold wrap64; omega
end Go.Proofs.Ytigkkfhpnfjmhaa.Bits
