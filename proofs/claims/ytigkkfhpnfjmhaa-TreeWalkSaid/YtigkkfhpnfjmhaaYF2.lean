/- Contracts: logic's lists, sets. -/
import Derived.Test.YtigkkfhpnfjmhaaYF1
namespace Go.Proofs.Ytigkkfhpnfjmhaa.AL
open Go
set_option linter.unusedVariables false
set_option linter.unusedSimpArgs false
set_option maxRecDepth 4000

abbrev intsE (l : List Int) : AV := .sl 1 (l.map (.int .i64))
def idxF (g : Int → Bool) (l : List Int) : Int := match l.findIdx? g with | some k => (k : Int) | none => -1
def firstF (l : List Int) (a b c : Int) : Int := if l.any (fun x => decide (ofF x = a)) = true then a else if l.any (fun x => decide (ofF x = b)) = true then b else c

end Go.Proofs.Ytigkkfhpnfjmhaa.AL
