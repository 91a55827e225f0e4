/- Texts and runes, taken up from an argument's reading. -/
import Derived.Test.YtenigafbbdjagaaYB1
import Derived.Test.YtenigafbbdjagaaProg
namespace Go.Proofs.Ytenigafbbdjagaa.AL
open Go Go.RowKit
theorem rTxt (n : Nat) : RUp Try.prog n 9 1 AV.str (fun s => s.length ≤ 140737488351232) := rstr Try.underlying9
theorem rRune (n : Nat) : RUp Try.prog n 21 1 (AV.int .i32) (fun x => (Lit.int .i32 x).wf = true) := rint Try.underlying21
end Go.Proofs.Ytenigafbbdjagaa.AL
