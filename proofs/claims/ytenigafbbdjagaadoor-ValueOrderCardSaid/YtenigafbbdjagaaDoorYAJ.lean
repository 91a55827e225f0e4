/- Quick rules: strings made of bytes; is an error nil. -/
import Derived.Test.YtenigafbbdjagaaDoorYAI
import Derived.Test.YtenigafbbdjagaaDoorYME
namespace Go.Proofs.YtenigafbbdjagaaDoor.AL
open Go
set_option linter.unusedVariables false
set_option linter.unusedSimpArgs false
section
variable {σ : AS} {C : AS → Prop} {d t n T : Nat} {tm : List (Nat × TV)} {bx : List (Nat × List TV)} {k : List Nat} {pos : String} {after : Array Edge} {g : Option (Nat × Bool)} {r : TV} {x : Operand}
theorem sg_bs {T1 T2 e by_ : Nat} {l : List UInt8} {vs : List AV} (hn : Nat.blt d n = true) (hx : (ev ⟨n, tm, bx, k⟩ x).dat = some (.sl 1 vs)) (ht : aty Tryd.prog T1 = .slice e 1 by_) (he : aty Tryd.prog e = .int .u8) (hu : aty Tryd.prog T2 = .str)
    (hl : vs = l.map fun b => .int .u8 (b.toNat : Int)) (h : C ⟨n, (d, .v (.str l)) :: tm, bx, k⟩) : SG ⟨some d, .convert T1 T2 x, T, pos, after, g⟩ ⟨n, tm, bx, k⟩ C := by
  subst hl
  exact ⟨.inr (lead_bytes rfl rfl (by simpa [Nat.blt_eq] using hn) hx ht he hu h)⟩
theorem sg_en {yt T' : Nat} {ms : Array (String × TypeId)} (hn : Nat.blt d n = true) (hx : (ev ⟨n, tm, bx, k⟩ x).dat = some .nilI) (ht : Tryd.prog.underlying T' = some (.interface ms))
    (h : C ⟨n, (d, .v (.bool false)) :: tm, bx, k⟩) : SG ⟨some d, .binOp .neq T' x (.const .nilIface) yt, T, pos, after, g⟩ ⟨n, tm, bx, k⟩ C :=
  ⟨.inr (lead_en rfl rfl (by simpa [Nat.blt_eq] using hn) hx ht h)⟩
theorem sg_ei {yt T' ty : Nat} {c : AV} {ms : Array (String × TypeId)} (hn : Nat.blt d n = true) (hx : (ev ⟨n, tm, bx, k⟩ x).dat = some (.iface ty c)) (ht : Tryd.prog.underlying T' = some (.interface ms))
    (h : C ⟨n, (d, .v (.bool true)) :: tm, bx, k⟩) : SG ⟨some d, .binOp .neq T' x (.const .nilIface) yt, T, pos, after, g⟩ ⟨n, tm, bx, k⟩ C :=
  ⟨.inr (lead_ei rfl rfl (by simpa [Nat.blt_eq] using hn) hx ht h)⟩
end
end Go.Proofs.YtenigafbbdjagaaDoor.AL
