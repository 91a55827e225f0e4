/- Quick rules: an element appended and then written. -/
import Derived.Test.YtigkkfhpnfjmhaaYAE
import Derived.Test.YtigkkfhpnfjmhaaYME
namespace Go.Proofs.Ytigkkfhpnfjmhaa.AL
open Go
set_option linter.unusedVariables false
set_option linter.unusedSimpArgs false
section
variable {ro : Option Nat} {σ : AS} {ops l rest : List Oper} {K : AS → Prop} {acc : RL} {n d q i j s sz bytes T1 T2 T3 T4 T5 T6 TX : Nat} {tm : List (Nat × TV)} {bx bx' : List (Nat × List TV)} {k k' : List Nat} {x y : Operand}
theorem sm_push7 {ops : Array Oper} {e e2 by2 : TypeId} {kk : IntKind} {m : Int} {xs zs : List AV} {z yv : AV} {pos4 pos5 pos6 pos7 : String} {af4 af5 af6 af7 : Array Edge} {p s7 T7 T8 : Nat} {c7 : TV} {bx2 : List (Nat × List TV)} (hn : (Nat.blt d n && (Nat.blt d 999999 && Nat.blt q n)) = true) (hne : ((q == d) || ((i == d) || ((j == d) || (j == q)))) = false)
    (hx : evT Try.prog T1 ⟨n, tm, bx, k⟩ x = .ap sz xs s) (hs9 : Nat.ble s 999999 = true) (hlv : (s == 999999 || memK s k) = true) (hy : srcA Try.prog ⟨n, tm, bx, k⟩ TX sz y = some [z]) (hi : get i tm = some (.v (.int kk m))) (hm : m = (xs.length : Int)) (hj : get j tm = some (.v yv)) (hyc : yv.cells.length = sz)
    (ht : aty Try.prog T1 = .slice e sz bytes) (ht2 : aty Try.prog T2 = .slice e2 sz by2) (hte : (aty Try.prog T3).size = sz) (hz : zeroC Try.prog e = some zs) (hz0 : (sz == 0) = false) (hzs : zs.length = sz)
    (hb : (xs.length + 1) * bytes ≤ 140737488355328) (hml : xs.length + 1 ≤ 9223372036854775807) {tm' : List (Nat × TV)} (hkt : killT d tm = tm') (hkb : killB d bx = bx') (hp : get p tm = some (.loc s7 0)) (hpd : ((p == d) || (s7 == d)) = false) (hbx : get s7 bx' = some [c7]) (ht7 : (aty Try.prog T7).size = 1) (hsb : setB s7 [.ap sz (xs ++ [yv]) d] bx' = bx2) (hkk : d :: pushK d s k = k')
    {i4 i5 i6 i7 : Nat} {prev : List Nat} (hpq : (p == q) = false)
    (at4 : ops[i4]? = some ⟨some d, .call { callee := .builtin .append, args := #[x, y], argTypes := #[T1, TX] }, T4, pos4, af4, none⟩) (at5 : ops[i5]? = some ⟨some q, .indexAddr T2 (.tmp d) (.tmp i), T5, pos5, af5, none⟩) (at6 : ops[i6]? = some ⟨none, .store T3 (.tmp q) (.tmp j), T6, pos6, af6, none⟩) (at7 : ops[i7]? = some ⟨none, .store T7 (.tmp p) (.tmp d), T8, pos7, af7, none⟩)
    (r1 : rdyA ops prev [i4, i5, i6, i7] = [i4]) (r2 : rdyA ops (i4 :: prev) [i5, i6, i7] = [i5, i7]) (r3 : rdyA ops (i5 :: i4 :: prev) [i6, i7] = [i6, i7]) (r4 : rdyA ops (i6 :: i5 :: i4 :: prev) [i7] = [i7]) (r5 : rdyA ops (i7 :: i5 :: i4 :: prev) [i6] = [i6])
    (r6 : rdyA ops (i7 :: i4 :: prev) [i5, i6] = [i5]) (r7 : rdyA ops (i5 :: i7 :: i4 :: prev) [i6] = [i6]) (x1 : [i5, i6, i7].erase i7 = [i5, i6]) (x2 : [i6, i7].erase i7 = [i6])
    (h : K ⟨n, (q, .undef) :: (d, .ap sz (xs ++ [yv]) d) :: tm', bx2, k'⟩) :
    SemA Try.prog ops prev [i4, i5, i6, i7] ⟨n, tm, bx, k⟩ K := by
  simp only [Bool.and_eq_true, Nat.blt_eq] at hn
  simp only [Bool.or_eq_false_iff] at hne
  simp only [Bool.or_eq_true, beq_iff_eq] at hlv
  subst hm
  simp only [Bool.or_eq_false_iff] at hpd
  refine semA_push7 (zs := zs) (z := z) (yv := yv) (c7 := c7) (t7 := T7) rfl rfl rfl hp hpd.1 hpd.2 (by rw [hkb]; exact hbx) ht7 rfl rfl rfl rfl rfl hn.1 hn.2.1 rfl rfl hn.2.2 hne.1 hne.2.1 rfl rfl hne.2.2.1 hne.2.2.2 hx (by simpa using hs9) hlv hy hi hj hyc ht ht2 hte hz (by simpa using hz0) hzs hb hml hpq at4 at5 at6 at7 r1 r2 r3 r4 r5 r6 r7 x1 x2 ?_
  rw [hkt, hkb, hkk, hsb]
  exact h
theorem drA {Q : Exit → AS → Prop} {id : Nat} (order τ : List Nat) (h : DSeq Try.prog ops σ order [] fun recs => okE ops.toArray σ τ recs = true ∧ SemA Try.prog ops.toArray (recs.map (·.1)) τ (fullS recs σ) (Q .normal)) : Tri Try.prog ro n (.region id ops.toArray true) σ Q :=
  tri_drawA (by kernel_rfl) order τ h
theorem d_endA {τ prev : List Nat} {ops' : Array Oper} (hd : okE ops.toArray σ τ acc = true) (ht : acc.map (·.1) = prev) (hb : rB acc σ.b = bx) (hk : kdrop (rC acc) (rK0 acc σ.k) = k) (h : SemA Try.prog ops' prev τ ⟨σ.n, rT acc σ.t, bx, k⟩ K) : okE ops.toArray σ τ acc = true ∧ SemA Try.prog ops' (acc.map (·.1)) τ (fullS acc σ) K := by
  subst ht; subst hb; subst hk; exact ⟨hd, h⟩

end
end Go.Proofs.Ytigkkfhpnfjmhaa.AL
