/- Quick rule: a package variable's table, read. -/
import Derived.Test.YtceleegbbclajaaDoorYAZ
import Derived.Test.YtceleegbbclajaaDoorYME
namespace Go.Proofs.YtceleegbbclajaaDoor.AL
open Go
set_option linter.unusedVariables false
set_option linter.unusedSimpArgs false
section
variable {σ : AS} {C : AS → Prop} {d t n T : Nat} {tm : List (Nat × TV)} {bx : List (Nat × List TV)} {k : List Nat} {pos : String} {after : Array Edge} {g : Option (Nat × Bool)} {r : TV} {x : Operand}
theorem sg_gix {T' b len ag' : Nat} {ag : Bool} {i : Operand} {k1 k2 : IntKind} {j z : Int} {vals : List Value} (hn : Nat.blt d n = true) (hi : (ev ⟨n, tm, bx, k⟩ i).dat = some (.int k1 j)) (ht : aty Tryd.prog T' = .arr ag' len 1 ag)
    (hj : 0 ≤ j ∧ j < (len : Int)) (htab : (b, vals) ∈ tabs) (hz : vals[j.toNat]? = some (.int k2 z)) (h : C ⟨n, (d, .v (.ro [.int k2 z])) :: tm, bx, k⟩) : SG ⟨some d, .indexAddr T' (.global b) i, T, pos, after, g⟩ ⟨n, tm, bx, k⟩ C :=
  ⟨.inr (lead_gix rfl rfl (by simpa [Nat.blt_eq] using hn) hi ht hj htab hz h)⟩
end
end Go.Proofs.YtceleegbbclajaaDoor.AL
