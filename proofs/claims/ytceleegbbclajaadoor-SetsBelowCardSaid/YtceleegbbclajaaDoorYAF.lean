/- Quick rules: slices of the run's own. -/
import Derived.Test.YtceleegbbclajaaDoorYAE
import Derived.Test.YtceleegbbclajaaDoorYME
namespace Go.Proofs.YtceleegbbclajaaDoor.AL
open Go
set_option linter.unusedVariables false
set_option linter.unusedSimpArgs false
section
variable {σ : AS} {C : AS → Prop} {d t n T s sz off m cap j : Nat} {tm : List (Nat × TV)} {bx : List (Nat × List TV)} {k : List Nat} {pos : String} {after : Array Edge} {g : Option (Nat × Bool)} {r : TV} {x y : Operand} {cs : List TV} {cells : List AV}
theorem datL_v : ∀ cells : List AV, TV.dat.datL (cells.map .v) = some cells
  | [] => rfl
  | c :: l => by simp [TV.dat.datL, TV.dat, datL_v l]
theorem sg_ol {T' e s2 by_ : Nat} (hn : Nat.blt d n = true) (hx : ev ⟨n, tm, bx, k⟩ x = .mp s (some (sz, off, m, cap))) (ht : aty Tryd.prog T' = .slice e s2 by_) (h : C ⟨n, (d, .v (.int .i64 (m : Int))) :: tm, bx, k⟩) :
    SG ⟨some d, .call { callee := .builtin .len, args := #[x], argTypes := #[T'] }, T, pos, after, g⟩ ⟨n, tm, bx, k⟩ C :=
  ⟨.inr (lead_olen rfl rfl (by simpa [Nat.blt_eq] using hn) hx ht h)⟩
theorem sg_oi {T' e by_ : Nat} {kk : IntKind} (hn : Nat.blt d n = true) (hx : ev ⟨n, tm, bx, k⟩ x = .mp s (some (sz, off, m, cap))) (hi : (ev ⟨n, tm, bx, k⟩ y).dat = some (.int kk (j : Int))) (ht : aty Tryd.prog T' = .slice e sz by_) (hz : (sz == 0) = false) (hj : j < m)
    (h : C ⟨n, (d, .loc s (off + j * sz)) :: tm, bx, k⟩) : SG ⟨some d, .indexAddr T' x y, T, pos, after, g⟩ ⟨n, tm, bx, k⟩ C :=
  ⟨.inr (lead_oix rfl rfl (by simpa [Nat.blt_eq] using hn) hx hi ht (by simpa using hz) hj h)⟩
theorem sg_mk {T' e by_ : Nat} {k1 k2 : IntKind} {zs : List AV} (hn : (Nat.blt d n && Nat.blt d 999999) = true) (hx : (ev ⟨n, tm, bx, k⟩ x).dat = some (.int k1 (m : Int))) (hy : (ev ⟨n, tm, bx, k⟩ y).dat = some (.int k2 (m : Int)))
    (ht : aty Tryd.prog T' = .slice e sz by_) (hz : zeroC Tryd.prog e = some zs) (hz0 : (sz == 0) = false) (hzs : zs.length = sz) (hb : m * by_ ≤ 281474976710656) (hm : m ≤ maxLen) (hk : Nos d tm bx k = true) (hcs : (zerosA zs m).map TV.v = cs)
    (h : C ⟨n, (d, .mp d (some (sz, 0, m, m))) :: tm, (d, cs) :: bx, k⟩) : SG ⟨some d, .makeSlice T' x y, T, pos, after, g⟩ ⟨n, tm, bx, k⟩ C := by
  simp only [Bool.and_eq_true, Nat.blt_eq] at hn
  obtain ⟨e1, e2, e3⟩ := Nos.eqs hk
  subst hcs
  exact ⟨.inr (lead_make rfl rfl hn.1 hn.2 hx hy ht hz (by simpa using hz0) hzs hb hm (by simpa [AS.newOwn, e1, e2, e3] using h))⟩
theorem sg_cl {T' e by_ : Nat} {zs : List AV} {cs' : List TV} (hx : ev ⟨n, tm, bx, k⟩ x = .mp s (some (sz, off, m, cap))) (hb : get s bx = some cs) (ht : aty Tryd.prog T' = .slice e sz by_) (hz : zeroC Tryd.prog e = some zs) (hzs : zs.length = sz) (hle : off + m * sz ≤ cs.length)
    (hcs : cs.take off ++ (zerosA zs m).map TV.v ++ cs.drop (off + m * sz) = cs') (h : C ⟨n, tm, setB s cs' bx, k⟩) : SG ⟨none, .call { callee := .builtin .clear, args := #[x], argTypes := #[T'] }, T, pos, after, g⟩ ⟨n, tm, bx, k⟩ C := by
  subst hcs
  exact ⟨.inr (lead_clear rfl rfl hx hb ht hz hzs hle h)⟩
theorem sg_cp {T' T2 e by_ : Nat} {ys : List AV} {cs' : List TV} (hn : Nat.blt d n = true) (hx : ev ⟨n, tm, bx, k⟩ x = .mp s (some (sz, off, m, cap))) (hb : get s bx = some cs) (hy : (ev ⟨n, tm, bx, k⟩ y).dat = some (.sl sz ys)) (ht : aty Tryd.prog T' = .slice e sz by_) (hz : (sz == 0) = false) (hle : off + m * sz ≤ cs.length)
    (hcs : cs.take off ++ (flat (ys.take m)).map TV.v ++ cs.drop (off + (min ys.length m) * sz) = cs') (h : C ⟨n, (d, .v (.int .i64 ((min ys.length m : Nat) : Int))) :: tm, setB s cs' bx, k⟩) :
    SG ⟨some d, .call { callee := .builtin .copy, args := #[x, y], argTypes := #[T', T2] }, T, pos, after, g⟩ ⟨n, tm, bx, k⟩ C := by
  subst hcs
  exact ⟨.inr (lead_copy rfl rfl (by simpa [Nat.blt_eq] using hn) hx hb hy ht (by simpa using hz) hle h)⟩
/-- A store into a slice of the run's own. -/
theorem sg_so {T' : Nat} {v : TV} {nc cs' : List TV} {off' : Nat} (hb : get s bx = some cs) (hcs : cs.take off ++ nc ++ cs.drop (off + nc.length) = cs') (hle : off + nc.length ≤ cs.length) (hx : ev ⟨n, tm, bx, k⟩ x = .loc s off') (hv : evT Tryd.prog T' ⟨n, tm, bx, k⟩ y = v) (hc : tcells v = some nc)
    (hz : (nc.length == (aty Tryd.prog T').size && !(nc.length == 0)) = true) (ho : off' = off) (h : C ⟨n, tm, setB s cs' bx, k⟩) : SG ⟨none, .store T' x y, T, pos, after, g⟩ ⟨n, tm, bx, k⟩ C := by
  subst hcs; subst ho; subst hv
  simp only [Bool.and_eq_true, beq_iff_eq, Bool.not_eq_true', beq_eq_false_iff_ne] at hz
  refine sg_e (σ' := ⟨n, tm, setB s (cs.take off' ++ nc ++ cs.drop (off' + nc.length)) bx, k⟩) ?_ (fun f args ats hop => by simp at hop) h
  simp only [stepOp, hx, hc, hb]
  rw [if_pos ⟨hz.1, hz.2, hle⟩]
theorem sg_ko {fid : FuncId} {args : Array Operand} {ats : Array TypeId} {avs : List AV} (hn : (Nat.blt d n && Nat.blt d 999999) = true) (ha : datArgs Tryd.prog ⟨n, tm, bx, k⟩ args.toList ats.toList = some avs) (hfc : FCO Tryd.prog fid avs sz m cells) (hk : Nos d tm bx k = true)
    (h : ∀ cap, m ≤ cap → C ⟨n, (d, .mp d (some (sz, 0, m, cap))) :: tm, (d, cells.map .v) :: bx, k⟩) : SG ⟨some d, .call { callee := .value (.func fid), args := args, argTypes := ats }, T, pos, after, g⟩ ⟨n, tm, bx, k⟩ C := by
  simp only [Bool.and_eq_true, Nat.blt_eq] at hn
  obtain ⟨e1, e2, e3⟩ := Nos.eqs hk
  exact ⟨.inr (lead_callO rfl rfl hn.1 hn.2 ha hfc fun cap hc => by simpa [AS.newOwn, e1, e2, e3] using h cap hc)⟩
theorem post_o {s : AS} {q : Nat} {ex : Exit} (ht : get t s.t = some (.mp q (some (sz, 0, m, cap)))) (hb : get q s.b = some cs) (hc : cs = cells.map .v) (he : ex = .ret ∨ ex = .normal) : PostO [.tmp t] sz m cells ex s := by
  subst hc
  exact ⟨he.symm, t, q, cap, rfl, ht, hb⟩
end
end Go.Proofs.YtceleegbbclajaaDoor.AL
