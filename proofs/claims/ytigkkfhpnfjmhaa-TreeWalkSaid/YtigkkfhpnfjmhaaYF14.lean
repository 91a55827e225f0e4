/- Contracts: what a predicate is. -/
import Derived.Test.YtigkkfhpnfjmhaaYF8

namespace Go.Proofs.Ytigkkfhpnfjmhaa.AL
open Go
set_option linter.unusedVariables false
set_option linter.unusedSimpArgs false
set_option maxRecDepth 4000
def notHd : List Int → Int
  | [] => 1
  | x :: _ => 2 - ofF x
def ofK (k t o : Int) (va vb : Val) (l : List Int) : Int :=
  if k = 1 then firstF [t] 0 1 2 else if k = 2 then refCmpF o va vb else if k = 3 then truthF va.null else if k = 4 then firstF l 0 1 2 else if k = 5 then firstF l 2 1 0 else if k = 6 then notHd l else 1
mutual
def ofPF (rows : List (List Val)) : Prd → Int
  | .mk k t o a b ps => ofK k t o (trmOfF a rows) (trmOfF b rows) (ofPL rows ps)
def ofPL (rows : List (List Val)) : List Prd → List Int
  | [] => []
  | p :: l => ofPF rows p :: ofPL rows l
end
end Go.Proofs.Ytigkkfhpnfjmhaa.AL
