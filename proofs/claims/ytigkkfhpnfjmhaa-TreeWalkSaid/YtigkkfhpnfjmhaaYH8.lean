/- Contracts: what is seen of a tree, and its tables, by the reference. -/
import Derived.Test.YtigkkfhpnfjmhaaYH7
namespace Go.Proofs.Ytigkkfhpnfjmhaa.AL
open Go
set_option linter.unusedVariables false
set_option linter.unusedSimpArgs false
set_option maxRecDepth 4000
def leafs : List Tre → List Int
  | [] => []
  | x :: l => if x.kind = 0 then x.table :: leafs l else leafs l
end Go.Proofs.Ytigkkfhpnfjmhaa.AL
