/- Quicker rules for calls. -/
import Derived.Test.YtigkkfhpnfjmhaaYAS
namespace Go.Proofs.Ytigkkfhpnfjmhaa.AL
open Go
set_option linter.unusedVariables false

def isCl (o : Oper) : Bool := match o.op with | .call { callee := .value _, .. } => true | _ => false
section
variable {ro : Option Nat} {n : Nat} {ops rest : List Oper} {σ σ' s : AS} {acc : List (Nat × Rc)} {is : List Nat} {i : Nat} {o : Oper} {K : AS → Prop} {KD : List (Nat × Rc) → Prop} {rc : Rc} {r : TV} {q : FuncId × List AV}
end
end Go.Proofs.Ytigkkfhpnfjmhaa.AL
