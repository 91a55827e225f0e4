/- Quick rules: is a slice, a function nil; calls of closures. -/
import Derived.Test.YtceleegbbclajaaDoorYAZ
import Derived.Test.YtceleegbbclajaaDoorYME
namespace Go.Proofs.YtceleegbbclajaaDoor.AL
open Go
set_option linter.unusedVariables false
set_option linter.unusedSimpArgs false
section
variable {σ : AS} {C : AS → Prop} {d t n T : Nat} {tm : List (Nat × TV)} {bx : List (Nat × List TV)} {k : List Nat} {pos : String} {after : Array Edge} {g : Option (Nat × Bool)} {r : TV} {x : Operand}
theorem sg_nil {yt e T' sz s2 by_ : Nat} {xs : List AV} (hn : Nat.blt d n = true) (hx : (ev ⟨n, tm, bx, k⟩ x).dat = some (.sl sz xs)) (ht : aty Tryd.prog T' = .slice e s2 by_)
    (h : ∀ β : Bool, (β = true → xs = []) → C ⟨n, (d, .v (.bool β)) :: tm, bx, k⟩) : SG ⟨some d, .binOp .eql T' x (.const (.slice none 0 0)) yt, T, pos, after, g⟩ ⟨n, tm, bx, k⟩ C :=
  ⟨.inr (lead_nil rfl rfl (by simpa [Nat.blt_eq] using hn) hx ht h)⟩
theorem sg_fnil {yt T' : Nat} {ps rs : Array TypeId} {vd : Bool} {f : FuncId} {cs : List AV} (hn : Nat.blt d n = true) (hx : (ev ⟨n, tm, bx, k⟩ x).dat = some (.fn f cs)) (ht : Tryd.prog.underlying T' = some (.func ps rs vd))
    (h : C ⟨n, (d, .v (.bool false)) :: tm, bx, k⟩) : SG ⟨some d, .binOp .eql T' x (.const .nilFunc) yt, T, pos, after, g⟩ ⟨n, tm, bx, k⟩ C :=
  ⟨.inr (lead_fnil rfl rfl (by simpa [Nat.blt_eq] using hn) hx ht h)⟩
theorem sg_kf {fid : FuncId} {args : Array Operand} {ats : Array TypeId} {cs : List TV} {avs caps all : List AV} {σ' : AS} (hv : get t σ.t = some (.fn fid cs)) (hc : TV.dat.datL cs = some caps) (ha : datArgs Tryd.prog σ args.toList ats.toList = some avs) (hl : avs ++ caps = all) (hfc : FC Tryd.prog fid all r) (hr : RtG d σ r σ') (h : C σ') :
    SG ⟨some d, .call { callee := .value (.tmp t), args := args, argTypes := ats }, T, pos, after, g⟩ σ C := by
  constructor
  subst hl
  refine .inl ?_
  simp only [StepS, ev, hv, Option.getD_some, fnOf, hc, Option.map_some, ha]
  exact ⟨_, hfc, σ', hr.h, h⟩
end
end Go.Proofs.YtceleegbbclajaaDoor.AL
