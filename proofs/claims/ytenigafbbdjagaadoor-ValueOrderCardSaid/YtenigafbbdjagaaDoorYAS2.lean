/- Quicker rules for calls. -/
import Derived.Test.YtenigafbbdjagaaDoorYAS
namespace Go.Proofs.YtenigafbbdjagaaDoor.AL
open Go
set_option linter.unusedVariables false

def isCl (o : Oper) : Bool := match o.op with | .call { callee := .value _, .. } => true | _ => false
section
variable {ro : Option Nat} {n : Nat} {ops rest : List Oper} {σ σ' s : AS} {acc : List (Nat × Rc)} {is : List Nat} {i : Nat} {o : Oper} {K : AS → Prop} {KD : List (Nat × Rc) → Prop} {rc : Rc} {r : TV} {q : FuncId × List AV}
theorem sq_c2 (hc : isCl o = true) (hs : callOp ops σ o = some q) (hfc : FC Tryd.prog q.1 q.2 r) (hr : σ.ret o.dst r = some σ') (h : SeqOps Tryd.prog ops rest σ' K) : SeqOps Tryd.prog ops (o :: rest) σ K :=
  sq_call hfc h hs hr
theorem dq_c2 (ho : ops[i]? = some o) (hc : isCl o = true) (hs : callOp ops (seeS acc σ) o = some q) (hfc : FC Tryd.prog q.1 q.2 r) (hr : caRc (seeS acc σ) o r = some rc) (h : DSeq Tryd.prog ops σ is ((i, rc) :: acc) KD) : DSeq Tryd.prog ops σ (i :: is) acc KD :=
  dq_call hfc h ho hs hr
end
end Go.Proofs.YtenigafbbdjagaaDoor.AL
