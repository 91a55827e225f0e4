/- Quick rules: strings told rune by rune, made of runes. -/
import Derived.Test.YtenigafbbdjagaaDoorYAY
import Derived.Test.YtenigafbbdjagaaDoorYAW
import Derived.Test.YtenigafbbdjagaaDoorYME
namespace Go.Proofs.YtenigafbbdjagaaDoor.AL
open Go
set_option linter.unusedVariables false
set_option linter.unusedSimpArgs false
theorem xTS {P : Prop} (h : P := by simp only [go_sem]) : P := h
section
variable {σ : AS} {C : AS → Prop} {d t n T : Nat} {tm : List (Nat × TV)} {bx : List (Nat × List TV)} {k : List Nat} {pos : String} {after : Array Edge} {g : Option (Nat × Bool)} {r : TV} {x : Operand}
theorem sg_rg {T' : Nat} {str : List UInt8} {tm' : List (Nat × TV)} {bx' : List (Nat × List TV)} {k' : List Nat} (hn : Nat.blt d n = true) (h9 : Nat.blt d 999999 = true) (hx : (ev ⟨n, tm, bx, k⟩ x).dat = some (.str str)) (ht : aty Tryd.prog T' = .str)
    (h1 : killT d tm = tm') (h2 : killB d bx = bx') (h3 : killK d k = k') (h : C ⟨n, (d, .it d str 0) :: tm', bx', d :: k'⟩) : SG ⟨some d, .range T' x, T, pos, after, g⟩ ⟨n, tm, bx, k⟩ C := by
  subst h1; subst h2; subst h3
  exact ⟨.inr (lead_range rfl rfl (by simpa [Nat.blt_eq] using hn) (by simpa [Nat.blt_eq] using h9) hx ht h)⟩
theorem sg_nx {s p : Nat} {str : List UInt8} {tm' : List (Nat × TV)} {bx' : List (Nat × List TV)} {k' : List Nat} (hn : Nat.blt d n = true) (hx : get t tm = some (.it s str p)) (hs : memK s k = true) (h9 : Nat.blt s 999999 = true) (hp : p < str.length)
    (h1 : killT s tm = tm') (h2 : killB s bx = bx') (h3 : killK s k = k')
    (h : C ⟨n, (d, .tup [.v (.bool true), .v (.int .i64 p), .v (.int .i32 (decB str p).1)]) :: (t, .it s str (p + (decB str p).2)) :: tm', bx', s :: k'⟩) : SG ⟨some d, .next (.tmp t) true, T, pos, after, g⟩ ⟨n, tm, bx, k⟩ C := by
  subst h1; subst h2; subst h3
  exact ⟨.inr (lead_next rfl rfl (by simpa [Nat.blt_eq] using hn) hx hs (by simpa [Nat.blt_eq] using h9) hp h)⟩
theorem sg_nxe {s p : Nat} {str : List UInt8} (hn : Nat.blt d n = true) (hx : get t tm = some (.it s str p)) (hs : memK s k = true) (h9 : Nat.blt s 999999 = true) (hp : ¬ p < str.length)
    (h : C ⟨n, (d, .tup [.v (.bool false)]) :: tm, bx, k⟩) : SG ⟨some d, .next (.tmp t) true, T, pos, after, g⟩ ⟨n, tm, bx, k⟩ C :=
  ⟨.inr (lead_nextE rfl rfl (by simpa [Nat.blt_eq] using hn) hx hs (by simpa [Nat.blt_eq] using h9) hp h)⟩
theorem sg_rs {T1 T2 : Nat} {kk : IntKind} {m : Int} (hn : Nat.blt d n = true) (hx : (ev ⟨n, tm, bx, k⟩ x).dat = some (.int kk m)) (ht : aty Tryd.prog T1 = .int kk) (hu : aty Tryd.prog T2 = .str)
    (h : C ⟨n, (d, .v (.str (encB m))) :: tm, bx, k⟩) : SG ⟨some d, .convert T1 T2 x, T, pos, after, g⟩ ⟨n, tm, bx, k⟩ C :=
  ⟨.inr (lead_rstr rfl rfl (by simpa [Nat.blt_eq] using hn) hx ht hu h)⟩
theorem sg_rns {T1 T2 e by_ : Nat} {l : List Int} (hn : Nat.blt d n = true) (hx : (ev ⟨n, tm, bx, k⟩ x).dat = some (.sl 1 (l.map (.int .i32)))) (ht : aty Tryd.prog T1 = .slice e 1 by_) (he : aty Tryd.prog e = .int .i32) (hu : aty Tryd.prog T2 = .str)
    (h : C ⟨n, (d, .v (.str (encL l))) :: tm, bx, k⟩) : SG ⟨some d, .convert T1 T2 x, T, pos, after, g⟩ ⟨n, tm, bx, k⟩ C :=
  ⟨.inr (lead_runes rfl rfl (by simpa [Nat.blt_eq] using hn) hx ht he hu h)⟩
end
end Go.Proofs.YtenigafbbdjagaaDoor.AL
