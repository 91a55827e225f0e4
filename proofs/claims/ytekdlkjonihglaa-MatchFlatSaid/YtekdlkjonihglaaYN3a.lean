/- Lists of tuples. -/
import Derived.Test.YtekdlkjonihglaaYN2
namespace Go.Proofs.Ytekdlkjonihglaa.AL
open Go
abbrev Tup := List (List Val)
/-- Few short tuples. -/
def LtL (l : List Tup) : Prop := l.length ≤ 1000 ∧ ∀ x ∈ l, LtT x
end Go.Proofs.Ytekdlkjonihglaa.AL
