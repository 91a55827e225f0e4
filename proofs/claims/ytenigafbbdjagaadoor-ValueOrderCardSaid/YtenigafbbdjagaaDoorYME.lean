/- An abstract program logic: merged texts. -/
import Derived.Test.YtenigafbbdjagaaDoorYMB
import Derived.Laws.MakeOwn
import Derived.Laws.CopyRow
import Derived.Test.YtenigafbbdjagaaDoorYMC
import Derived.Deep.WholeRow
import Derived.Laws.Cover4
import Derived.Laws.IdiomStrings
import Derived.Laws.RangeString
import Derived.Laws.RangeAny
import Derived.Laws.Runes
/- Steps told by what the machine does: is a slice, a function nil. -/
namespace Go.Proofs.YtenigafbbdjagaaDoor.AL
open Go Go.RowKit
set_option linter.unusedVariables false
set_option linter.unusedSimpArgs false
section
variable {P : Program} {σ : AS} {o : Oper} {d : Nat} {K : AS → Prop}

theorem run_eq_slN {t e : TypeId} (hu : P.underlying t = some (.slice e)) (n : Nat) (b : Option Addr) (l c : Nat) (w : World) : (Op.equalIn (n + 1) t (.slice b l c) (.slice none 0 0)).run P w = .ok b.isNone w := by
  unfold Op.equalIn
  cases b <;> simp [run_underlying hu]
theorem run_eq_fnN {t : TypeId} {ps rs : Array TypeId} {vd : Bool} (hu : P.underlying t = some (.func ps rs vd)) (n : Nat) (f : Fn) (as bs : Array Value) (w : World) : (Op.equalIn (n + 1) t (.func f as bs) .nilFunc).run P w = .ok false w := by
  unfold Op.equalIn
  simp [run_underlying hu]
theorem lead_nil {t yt e : TypeId} {x : Operand} {sz s2 by_ : Nat} {xs : List AV} (ho : o.op = .binOp .eql t x (.const (.slice none 0 0)) yt) (hdst : o.dst = some d) (hd : d < σ.n)
    (hx : (ev σ x).dat = some (.sl sz xs)) (ht : aty P t = .slice e s2 by_) (h : ∀ β : Bool, (β = true → xs = []) → K (σ.put d (.v (.bool β)))) : Leads P σ o K := by
  intro ro n E a w K' Q' hr hK
  obtain ⟨g, h1, h2, h3⟩ := hr
  obtain ⟨hu, _, _⟩ := aty_slice ht
  have hR := datR h2 hx
  have hun : ∀ b l c, (Op.equalIn Op.maxDepth t (.slice b l c) (.slice none 0 0)).run P w = .ok b.isNone w := fun b l c => run_eq_slN hu 9999 b l c w
  have key : ∃ β : Bool, (β = true → xs = []) ∧ (binOp .eql t (a.eval x) (.slice none 0 0)).run P w = .ok (.bool β) w ∧ (eqGuard .eql t x (.const (.slice none 0 0)) (a.eval x) (.slice none 0 0)).run P w = .ok () w := by
    have hg : ∀ v, v = a.eval x → (∃ b l c, v = Value.slice b l c) → (eqGuard .eql t x (.const (.slice none 0 0)) v (.slice none 0 0)).run P w = .ok () w := by
      rintro v hv ⟨b, l, c, rfl⟩
      exact eqGuard_plain (by simp) (by simp)
    rcases sl_inv hR with ⟨rfl, a0, cap, hv, _, _⟩ | ⟨b, off, cap, vs, hv, _⟩
    · cases a0 with
      | none => exact ⟨true, fun _ => rfl, by rw [hv]; simp [binOp, Op.equal, hun], by rw [hv]; exact hg _ hv.symm ⟨_, _, _, rfl⟩⟩
      | some a0 => exact ⟨false, (fun h => (by cases h)), by rw [hv]; simp [binOp, Op.equal, hun], by rw [hv]; exact hg _ hv.symm ⟨_, _, _, rfl⟩⟩
    · exact ⟨false, (fun h => (by cases h)), by rw [hv]; simp [binOp, Op.equal, hun], by rw [hv]; exact hg _ hv.symm ⟨_, _, _, rfl⟩⟩
  obtain ⟨β, hβ, hrun, hgd⟩ := key
  refine goes_wpIn (E := E) (σ' := σ.put d (.v (.bool β))) (by simp [ho]) ⟨.bool β, w, .inl (execBin ho hgd hrun), ?_⟩ fun v w' hr' => hK _ _ _ (h β hβ) hr'
  rw [hdst]
  exact ⟨g, h1, Tmps.cons h2 hd (.v _ _ (.bool β)), h3⟩

theorem lead_fnil {t yt : TypeId} {x : Operand} {ps rs : Array TypeId} {vd : Bool} {f : FuncId} {cs : List AV} (ho : o.op = .binOp .eql t x (.const .nilFunc) yt) (hdst : o.dst = some d) (hd : d < σ.n)
    (hx : (ev σ x).dat = some (.fn f cs)) (hu : P.underlying t = some (.func ps rs vd)) (h : K (σ.put d (.v (.bool false)))) : Leads P σ o K := by
  intro ro n E a w K' Q' hr hK
  obtain ⟨g, h1, h2, h3⟩ := hr
  have hR := datR h2 hx
  have hun : ∀ f as bs, (Op.equalIn Op.maxDepth t (.func f as bs) .nilFunc).run P w = .ok false w := fun f as bs => run_eq_fnN hu 9999 f as bs w
  have key : (binOp .eql t (a.eval x) .nilFunc).run P w = .ok (.bool false) w ∧ (eqGuard .eql t x (.const .nilFunc) (a.eval x) .nilFunc).run P w = .ok () w := by
    generalize a.eval x = v at hR
    cases hR with
    | fn f cs vs hn hh => exact ⟨by simp [binOp, Op.equal, hun], eqGuard_plain (by simp) (by simp)⟩
  refine goes_wpIn (E := E) (σ' := σ.put d (.v (.bool false))) (by simp [ho]) ⟨.bool false, w, .inl (execBin ho key.2 key.1), ?_⟩ fun v w' hr' => hK _ _ _ h hr'
  rw [hdst]
  exact ⟨g, h1, Tmps.cons h2 hd (.v _ _ (.bool false)), h3⟩
end
end Go.Proofs.YtenigafbbdjagaaDoor.AL

/- Slices of the run's own, whose cells may be written: made, looked at, cleared, copied into, handed back. -/
namespace Go.Proofs.YtenigafbbdjagaaDoor.AL
open Go Go.RowKit
set_option linter.unusedVariables false
set_option linter.unusedSimpArgs false
section
variable {P : Program} {E : E0} {g : GS} {w w' : World} {σ : AS} {a : Act} {o : Oper} {d : Nat} {K : AS → Prop} {v : Value} {s sz off n cap : Nat}

theorem mp_inv (h : RT g w (.mp s (some (sz, off, n, cap))) v) : ∃ b, g.φ s = some b ∧ v = .slice (some ⟨b, off, none⟩) n cap ∧ n ≤ cap ∧ cap ≤ maxLen := by
  cases h with
  | mp s b q x hφ hx =>
    cases hx with
    | sl sz off n cap h0 hm => exact ⟨b, hφ, rfl, h0, hm⟩

theorem lead_olen {t e s2 by_ : Nat} {x : Operand} (ho : o.op = .call { callee := .builtin .len, args := #[x], argTypes := #[t] }) (hdst : o.dst = some d) (hd : d < σ.n)
    (hx : ev σ x = .mp s (some (sz, off, n, cap))) (ht : aty P t = .slice e s2 by_) (h : K (σ.put d (.v (.int .i64 n)))) : Leads P σ o K := by
  intro ro m E a w K' Q' hr hK
  obtain ⟨g, h1, h2, h3⟩ := hr
  obtain ⟨hu, _, _⟩ := aty_slice ht
  have hR := ev_rt h2 x
  rw [hx] at hR
  obtain ⟨b, hφ, hv, _, _⟩ := mp_inv hR
  refine goes_wpIn (E := E) (σ' := σ.put d (.v (.int .i64 n))) (by simp [ho]) ⟨.int .i64 n, w, .inl ?_, ?_⟩ fun v w' hr' => hK _ _ _ h hr'
  · simp only [execOp, ho, Sem.run_bind, resolve, Sem.run_pure, Result.andThen_ok, invoke, builtin]
    simp [Builtin.len_, run_underlying hu, hv, goInt]
  · rw [hdst]
    exact ⟨g, h1, Tmps.cons h2 hd (.v _ _ (.int _ _)), h3⟩

theorem lead_oix {t e by_ : Nat} {x i : Operand} {k : IntKind} {j : Nat} (ho : o.op = .indexAddr t x i) (hdst : o.dst = some d) (hd : d < σ.n) (hx : ev σ x = .mp s (some (sz, off, n, cap)))
    (hi : (ev σ i).dat = some (.int k (j : Int))) (ht : aty P t = .slice e sz by_) (hz : sz ≠ 0) (hj : j < n) (h : K (σ.put d (.loc s (off + j * sz)))) : Leads P σ o K := by
  intro ro m E a w K' Q' hr hK
  obtain ⟨g, h1, h2, h3⟩ := hr
  obtain ⟨hu, hse, _⟩ := aty_slice ht
  have hR := ev_rt h2 x
  rw [hx] at hR
  obtain ⟨b, hφ, hv, _, _⟩ := mp_inv hR
  have vi := int_inv (datR h2 hi)
  refine goes_wpIn (E := E) (σ' := σ.put d (.loc s (off + j * sz))) (by simp [ho]) ⟨.pointer (some ⟨b, off + j * sz, none⟩), w, .inl ?_, ?_⟩ fun v w' hr' => hK _ _ _ h hr'
  · simp only [execOp, ho]
    refine runV ?_
    rw [hv, vi]
    simp only [Instr.indexAt, asIntOf, Sem.run_bind, Sem.run_pure, Result.andThen_ok, run_underlying hu]
    have hb : 0 ≤ (j : Int) ∧ (j : Int) < (n : Int) := ⟨by omega, by omega⟩
    simp [hb, run_sizeOf hse hz, add_none]
  · rw [hdst]
    exact ⟨g, h1, Tmps.cons h2 hd (.loc s _ b hφ), h3⟩

/-- A slice made anew, of the run's own. -/
def AS.newOwn (σ : AS) (d sz n cap : Nat) (cs : List TV) : AS := ⟨σ.n, (d, .mp d (some (sz, 0, n, cap))) :: killT d σ.t, (d, cs) :: killB d σ.b, killK d σ.k⟩
theorem newOwn_rel (h1 : Wf g w σ.b σ.k) (h2 : Tmps g w σ a) (h3 : Ext E.g E.w g w) (hd : d < σ.n) (hd' : d < 999999) {cs : List TV} {vs : Array Value} {e : TypeId} (hn : cs.length = vs.size)
    (hc : ∀ (j : Nat) c v, cs[j]? = some c → vs[j]? = some v → RT g w c v ∧ v.oneCell' = true) (hle : n ≤ cap) (hmax : cap ≤ maxLen) :
    Rel E (σ.newOwn d sz n cap (killL d cs)) (a.put (some d) (.slice (some ⟨w.heap.size, 0, none⟩) n cap)) (w.alloc (.cells vs e)) := by
  have hW := h1.new (s := d) (m := 0) (vs := vs) (e := e) (vr := true) (tk := false) (w1 := w) rfl (fun _ => rfl) (fun _ => rfl) (Nat.zero_le _) (fun j v hj => by omega)
  have hφ : (g.new w.heap.size d 0 vs true false).φ d = some w.heap.size := by simp [GS.new]
  refine ⟨g.new w.heap.size d 0 vs true false, ?_, ?_, h3.new h1 rfl rfl rfl rfl (by omega)⟩
  · exact
    { hW with
      box := fun t cs' ht => by
        simp only [AS.newOwn, get] at ht
        cases htd : t == d
        · simp only [htd, cond_false] at ht; exact hW.box t cs' ht
        · simp only [htd, cond_true, Option.some.injEq] at ht
          simp only [beq_iff_eq] at htd
          subst ht; subst htd
          refine ⟨w.heap.size, vs, e, hφ, heap_alloc_at w _, by simpa [killL_map] using hn, fun j c v hc' hv => ?_, fun o => hW.nφ _ _ o hφ⟩
          obtain ⟨c0, h0, rfl⟩ := getElem?_killL hc'
          have := hc j c0 v h0 hv
          exact ⟨this.1.new h1 rfl, this.2⟩ }
  · refine Tmps.cons (σ := σ) (ts := killT d σ.t) ?_ hd (.mp d _ _ _ hφ (.sl _ _ _ _ hle hmax))
    refine ⟨h2.1, h2.2.1, fun t y hy => ?_, by simp only [GS.new]; rw [if_neg (by omega)]; exact h2.2.2.2⟩
    simp only [get_killT] at hy
    cases hg : get t σ.t with
    | none => simp [hg] at hy
    | some z =>
      simp only [hg, Option.map_some, Option.some.injEq] at hy
      subst hy
      exact ⟨(h2.2.2.1 t z hg).1, (h2.2.2.1 t z hg).2.new h1 rfl⟩

/-- Cells of so many elements, all zero. -/
def zerosA (zs : List AV) : Nat → List AV
  | 0 => []
  | n + 1 => zs ++ zerosA zs n
theorem zerosA_len (zs : List AV) : ∀ n, (zerosA zs n).length = n * zs.length
  | 0 => by simp [zerosA]
  | n + 1 => by rw [zerosA, List.length_append, zerosA_len zs n, Nat.succ_mul]; omega
theorem zerosA_at (zs : List AV) : ∀ (n j : Nat), j < n * zs.length → (zerosA zs n)[j]? = zs[j % zs.length]?
  | 0, j, h => by simp at h
  | n + 1, j, h => by
    rw [zerosA]
    by_cases hj : j < zs.length
    · rw [List.getElem?_append_left hj, Nat.mod_eq_of_lt hj]
    · rw [List.getElem?_append_right (by omega), zerosA_at zs n (j - zs.length) (by rw [Nat.succ_mul] at h; omega), ← Nat.mod_eq_sub_mod (by omega)]

theorem killL_v (d : Nat) (cs : List AV) : killL d (cs.map .v) = cs.map .v := by
  rw [killL_map, List.map_map]; exact List.map_congr_left fun x _ => rfl

theorem lead_make {t e by_ : Nat} {x y : Operand} {k1 k2 : IntKind} {zs : List AV} (ho : o.op = .makeSlice t x y) (hdst : o.dst = some d) (hd : d < σ.n) (hd' : d < 999999)
    (hx : (ev σ x).dat = some (.int k1 (n : Int))) (hy : (ev σ y).dat = some (.int k2 (n : Int))) (ht : aty P t = .slice e sz by_) (hz : zeroC P e = some zs) (hz0 : sz ≠ 0) (hzs : zs.length = sz)
    (hb : n * by_ ≤ 281474976710656) (hm : n ≤ maxLen) (h : K (σ.newOwn d sz n n ((zerosA zs n).map .v))) : Leads P σ o K := by
  intro ro m E a w K' Q' hr hK
  obtain ⟨g, h1, h2, h3⟩ := hr
  obtain ⟨hu, hse, hby⟩ := aty_slice ht
  obtain ⟨i, hi, his⟩ := info_of_sz hse hz0
  have hib : i.bytes = by_ := by simpa [Program.bytesOf, hi] using hby
  obtain ⟨z, hzv, hzl⟩ := zeroC_info hz
  have hzi : i.zero = some z := by simpa [hi] using hzv
  obtain ⟨z', hz', hl', hmt⟩ := zeroC_match hz
  have vx := int_inv (datR h2 hx)
  have vy := int_inv (datR h2 hy)
  have hm' : (n : Int) ≤ 9223372036854775807 := by unfold maxLen at hm; omega
  have hrun := run_make (P := P) w t e i z hu hi hzi k1 k2 n n (by omega) (Int.le_refl _) (by
    have hq : ((by_ * n : Nat) : Int) ≤ 281474976710656 := by rw [Nat.mul_comm]; omega
    rw [Int.natCast_mul] at hq
    rw [hib]; exact hq) hm'
  simp only [Int.toNat_natCast, his] at hrun
  have hzz : z.cells.size = sz := by rw [hzl, hzs]
  have zmm : ∀ (j : Nat) c v, zs[j]? = some c → z.cells[j]? = some v → zmatch c v = true := by
    have e1 := hz' w
    have e2 : (zeroValue e).run P w = .ok z w := by simp only [zeroValue, Sem.run_bind, typeInfo]; simp [hi, hzi]
    rw [e1] at e2; cases e2
    exact hmt
  have := newOwn_rel (sz := sz) (n := n) (cap := n) (d := d) (σ := σ) (a := a) (E := E) h1 h2 h3 hd hd' (cs := (zerosA zs n).map .v) (vs := madeCells z.cells (n * sz)) (e := e) (by rw [List.length_map, zerosA_len, size_madeCells, hzs]) (fun j c v hc hv => by
    rw [List.getElem?_map] at hc
    have hj : j < n * sz := by have := (Array.getElem?_eq_some_iff.1 hv).1; rwa [size_madeCells] at this
    rw [zerosA_at zs n j (by rw [hzs]; exact hj), hzs] at hc
    simp only [madeCells, Array.getElem?_map, Array.getElem?_range, if_pos hj, Option.map_some, Option.some.injEq] at hv
    have hlt : j % sz < z.cells.size := by rw [hzz]; exact Nat.mod_lt _ (by omega)
    have hv' : z.cells[j % sz]? = some v := by rw [← hv, hzz]; simp [hlt]
    cases hcj : zs[j % sz]? with
    | none => simp [hcj] at hc
    | some c0 =>
      simp only [hcj, Option.map_some, Option.some.injEq] at hc
      subst hc
      have := zmatch_R (M := g.M) (zmm _ _ _ hcj hv')
      exact ⟨.v _ _ this.1, this.2⟩) (Nat.le_refl _) hm
  rw [killL_v] at this
  refine goes_wpIn (E := E) (σ' := σ.newOwn d sz n n ((zerosA zs n).map .v)) (by simp [ho]) ⟨_, _, .inl ?_, by rw [hdst]; exact this⟩ fun v w' hr' => hK _ _ _ h hr'
  simp only [execOp, ho]
  refine runV ?_
  rw [vx, vy]
  exact hrun

/-- Cells in a box of the run's own written anew. -/
theorem own_store (h1 : Wf g w σ.b σ.k) (h2 : Tmps g w σ a) (h3 : Ext E.g E.w g w) {cs : List TV} {nc : List AV} {us : List Value} {b : Nat} (hb : get s σ.b = some cs) (hle : off + nc.length ≤ cs.length) (hφ : g.φ s = some b)
    (u1 : nc.length = us.length) (u2 : ∀ (j : Nat) c v, nc[j]? = some c → us[j]? = some v → R g.M c v ∧ v.oneCell' = true) :
    ∃ w', (storeCells ⟨b, off, none⟩ us).run P w = .ok () w' ∧ Rel E ⟨σ.n, σ.t, setB s (cs.take off ++ nc.map .v ++ cs.drop (off + nc.length)) σ.b, σ.k⟩ a w' := by
  obtain ⟨b', w', hv, hst, hrel⟩ := store_rel (P := P) (E := E) (σ := σ) (a := a) h1 h2 h3 (nc := nc.map TV.v) (u := .agg us.toArray) (off := off) hb (by simpa using hle) (by simpa [Value.cells] using u1) (fun j c v hc hv => by
    rw [List.getElem?_map] at hc
    cases hcj : nc[j]? with
    | none => simp [hcj] at hc
    | some c0 =>
      simp only [hcj, Option.map_some, Option.some.injEq] at hc
      subst hc
      have := u2 j c0 v hcj (by simpa [Value.cells] using hv)
      exact ⟨.v _ _ this.1, this.2⟩) (.loc s off b hφ)
  cases hv
  refine ⟨w', by simpa [Value.cells] using hst, by simpa using hrel⟩

theorem zeroCells_at {z : Array Value} {n j : Nat} {v : Value} (hj : j < n * z.size) (hv : (Builtin.zeroCells z n).toList[j]? = some v) : z[j % z.size]? = some v := by
  have hpos : 0 < z.size := Nat.pos_of_ne_zero fun h => by rw [h] at hj; omega
  have hlt : j % z.size < z.size := Nat.mod_lt _ hpos
  rw [Array.getElem?_toList] at hv
  simp only [Builtin.zeroCells, Array.getElem?_map, Array.getElem?_range] at hv
  rw [if_pos hj] at hv
  simp only [Option.map_some, Option.some.injEq] at hv
  rw [← hv]; simp [hlt]
theorem lead_clear {t e by_ : Nat} {x : Operand} {cs : List TV} {zs : List AV} (ho : o.op = .call { callee := .builtin .clear, args := #[x], argTypes := #[t] }) (hdst : o.dst = none) (hx : ev σ x = .mp s (some (sz, off, n, cap)))
    (hb : get s σ.b = some cs) (ht : aty P t = .slice e sz by_) (hz : zeroC P e = some zs) (hzs : zs.length = sz) (hle : off + n * sz ≤ cs.length)
    (h : K ⟨σ.n, σ.t, setB s (cs.take off ++ (zerosA zs n).map .v ++ cs.drop (off + n * sz)) σ.b, σ.k⟩) : Leads P σ o K := by
  intro ro m E a w K' Q' hr hK
  have hr0 := hr
  obtain ⟨g, h1, h2, h3⟩ := hr
  obtain ⟨hu, hse, hby⟩ := aty_slice ht
  have hR := ev_rt h2 x
  rw [hx] at hR
  obtain ⟨b, hφ, hv, _, _⟩ := mp_inv hR
  obtain ⟨z, hzv, hzl, hmt⟩ := zeroC_match hz
  have hsz : (Builtin.zeroCells z.cells n).toList.length = n * sz := by simp [size_zeroCells, ← hzl, hzs]
  obtain ⟨w', hst, hrel⟩ := own_store (P := P) (E := E) (σ := σ) (a := a) (off := off) (nc := zerosA zs n) (us := (Builtin.zeroCells z.cells n).toList) h1 h2 h3 hb (by rw [zerosA_len, hzs]; exact hle) hφ (by rw [zerosA_len, hsz, hzs]) (fun j c v hc hv => by
    have hj : j < n * zs.length := by have := (List.getElem?_eq_some_iff.1 hc).1; rwa [zerosA_len] at this
    rw [zerosA_at zs n j hj] at hc
    have hv' : z.cells[j % zs.length]? = some v := by
      rw [hzl] at hj ⊢
      exact zeroCells_at hj hv
    have := zmatch_R (M := g.M) (hmt _ _ _ hc hv')
    exact this)
  rw [zerosA_len, hzs] at hrel
  refine goes_wpIn (E := E) (σ' := ⟨σ.n, σ.t, setB s (cs.take off ++ (zerosA zs n).map .v ++ cs.drop (off + n * sz)) σ.b, σ.k⟩) (by simp [ho]) ⟨.tuple #[], w', .inl ?_, by rw [hdst]; exact hrel⟩ fun v w' hr' => hK _ _ _ h hr'
  simp only [execOp, ho, Sem.run_bind, resolve, Sem.run_pure, Result.andThen_ok, invoke, builtin]
  cases n with
  | zero =>
    have : w' = w := by
      have hz0 : (Builtin.zeroCells z.cells 0).toList = [] := List.eq_nil_of_length_eq_zero (by rw [hsz]; simp)
      rw [hz0] at hst
      simpa [storeCells] using hst.symm
    subst this
    simp [Builtin.clear_, run_underlying hu, hv]
  | succ n =>
    simp [Builtin.clear_, run_underlying hu, hv, hzv, hst]
theorem flat_take {sz : Nat} (ys : List AV) (hs : ∀ y ∈ ys, y.cells.length = sz) : ∀ m, flat (ys.take m) = (flat ys).take (m * sz) := by
  intro m
  have h1 : flat ys = flat (ys.take m) ++ flat (ys.drop m) := by rw [← flat_append, List.take_append_drop]
  have h2 := flat_length (ys.take m) (fun y hy => hs y (List.mem_of_mem_take hy))
  by_cases hm : m ≤ ys.length
  · have hl : (ys.take m).length = m := by rw [List.length_take]; omega
    rw [hl] at h2
    rw [h1, ← h2, List.take_left]
  · rw [List.take_of_length_le (by omega)]
    have h3 := flat_length ys hs
    rw [List.take_of_length_le (by rw [h3]; exact Nat.mul_le_mul_right _ (by omega))]

theorem lead_copy {t t2 e by_ : Nat} {x y : Operand} {cs : List TV} {ys : List AV} (ho : o.op = .call { callee := .builtin .copy, args := #[x, y], argTypes := #[t, t2] }) (hdst : o.dst = some d) (hd : d < σ.n) (hx : ev σ x = .mp s (some (sz, off, n, cap)))
    (hb : get s σ.b = some cs) (hy : (ev σ y).dat = some (.sl sz ys)) (ht : aty P t = .slice e sz by_) (hz0 : sz ≠ 0) (hle : off + n * sz ≤ cs.length)
    (h : K ((⟨σ.n, σ.t, setB s (cs.take off ++ (flat (ys.take n)).map .v ++ cs.drop (off + (min ys.length n) * sz)) σ.b, σ.k⟩ : AS).put d (.v (.int .i64 ((min ys.length n : Nat) : Int))))) : Leads P σ o K := by
  intro ro m E a w K' Q' hr hK
  obtain ⟨g, h1, h2, h3⟩ := hr
  obtain ⟨hu, hse, hby⟩ := aty_slice ht
  have hR := ev_rt h2 x
  rw [hx] at hR
  obtain ⟨b, hφ, hv, _, _⟩ := mp_inv hR
  have hRy := datR h2 hy
  obtain ⟨us, hlen, hcells, hul, hur, hys⟩ : ∃ us : List Value, (Builtin.lenOf (a.eval y)).run P w = .ok ys.length w ∧ (Builtin.firstCells sz (min ys.length n) (a.eval y)).run P w = .ok us.toArray w ∧ us.length = (min ys.length n) * sz ∧
      (∀ (j : Nat) c v, (flat (ys.take n))[j]? = some c → us[j]? = some v → R g.M c v ∧ v.oneCell' = true) ∧ (flat (ys.take n)).length = (min ys.length n) * sz := by
    rcases sl_inv hRy with ⟨rfl, a0, cap', hv', hmax, hnn⟩ | ⟨b', off', cap', vs, hv', hle', hmax, hs, hM, hRv⟩
    · refine ⟨[], by rw [hv']; simp [Builtin.lenOf], ?_, by simp, fun j c v hc => by simp [flat] at hc, by simp [flat]⟩
      rw [hv']
      cases a0 with
      | none => exact run_firstCells_none w sz _ _ _
      | some a0 => exact run_firstCells_some (P := P) w sz 0 a0 _ _ [] (by simp) (fun j v hj => by simp at hj)
    · have hfl := flat_length (ys.take n) (fun y hy => hs y (List.mem_of_mem_take hy))
      have hmin : (ys.take n).length = min ys.length n := by rw [List.length_take, Nat.min_comm]
      rw [hmin] at hfl
      have hat : ∀ (j : Nat) c, (flat (ys.take n))[j]? = some c → (flat ys)[j]? = some c := fun j c hc => by
        rw [flat_take ys hs, List.getElem?_take] at hc
        split at hc
        · exact hc
        · cases hc
      refine ⟨(List.range ((min ys.length n) * sz)).map vs, by rw [hv']; simp [Builtin.lenOf], ?_, by simp, fun j c v hc hv => ?_, hfl⟩
      · rw [hv']
        refine run_firstCells_some (P := P) w sz _ ⟨b', off', none⟩ _ _ _ (by simp) (fun j v hj => ?_)
        rw [List.getElem?_map] at hj
        have hjl : j < (min ys.length n) * sz := by
          rcases Nat.lt_or_ge j ((min ys.length n) * sz) with h | h
          · exact h
          · rw [List.getElem?_eq_none (by simpa using h)] at hj; simp at hj
        rw [List.getElem?_range hjl] at hj
        simp only [Option.map_some, Option.some.injEq] at hj
        have hc : ∃ c, (flat (ys.take n))[j]? = some c := ⟨_, List.getElem?_eq_getElem (by omega)⟩
        obtain ⟨c, hc⟩ := hc
        rw [add_none, ← hj]
        exact (h1.mem _ _ _ (hM j c (hat j c hc))).1
      · have hjl : j < (min ys.length n) * sz := by have := (List.getElem?_eq_some_iff.1 hc).1; omega
        rw [List.getElem?_map, List.getElem?_range hjl] at hv
        simp only [Option.map_some, Option.some.injEq] at hv
        rw [← hv]
        exact ⟨hRv j c (hat j c hc), (h1.mem _ _ _ (hM j c (hat j c hc))).2⟩
  have hmn : (min ys.length n) * sz ≤ n * sz := Nat.mul_le_mul_right _ (Nat.min_le_right _ _)
  obtain ⟨w', hst, hrel⟩ := own_store (P := P) (E := E) (σ := σ) (a := a) (off := off) (nc := flat (ys.take n)) (us := us) h1 h2 h3 hb (by rw [hys]; omega) hφ (by rw [hys, hul]) hur
  rw [hys] at hrel
  refine goes_wpIn (E := E) (σ' := (⟨σ.n, σ.t, setB s (cs.take off ++ (flat (ys.take n)).map .v ++ cs.drop (off + (min ys.length n) * sz)) σ.b, σ.k⟩ : AS).put d (.v (.int .i64 ((min ys.length n : Nat) : Int)))) (by simp [ho])
    ⟨.int .i64 ((min ys.length n : Nat) : Int), w', .inl ?_, by rw [hdst]; exact hrel.put hd fun g _ _ => .v _ _ (.int _ _)⟩ fun v w' hr' => hK _ _ _ h hr'
  simp only [execOp, ho, Sem.run_bind, resolve, Sem.run_pure, Result.andThen_ok, invoke, builtin]
  have hnm : Nat.min ys.length n = min ys.length n := rfl
  simp [Builtin.copy_, run_underlying hu, hv, hlen, run_sizeOf hse hz0, hnm, hcells, hst, goInt]
end
end Go.Proofs.YtenigafbbdjagaaDoor.AL

/- Functions that hand back a slice of their caller's own. -/
namespace Go.Proofs.YtenigafbbdjagaaDoor.AL
open Go Go.RowKit
set_option linter.unusedVariables false
set_option linter.unusedSimpArgs false
/-- What a call hands back: a slice that nobody else knows. -/
def ResO (M : Mem) (w w' : World) (sz n : Nat) (cells : List AV) (v : Value) : Prop :=
  ∃ b cap vs ty, v = .slice (some ⟨b, 0, none⟩) n cap ∧ n ≤ cap ∧ cap ≤ maxLen ∧ w.heap.size ≤ b ∧ w'.heap[b]? = some (.cells vs ty (0, 0)) ∧ cells.length = vs.size ∧
    (∀ (j : Nat) c v, cells[j]? = some c → vs[j]? = some v → R M c v ∧ v.oneCell' = true) ∧ ∀ o, M b o = none
def FCO (P : Program) (f : FuncId) (args : List AV) (sz n : Nat) (cells : List AV) : Prop :=
  (∀ vs w, (callFunc f vs).run P w = .ok (.enter f vs) w) ∧ ∀ (M : Mem) (w : World) (vals : Array Value), MemOk M w → TabP M w → args.length = vals.size →
    (∀ (j : Nat) x v, args[j]? = some x → vals[j]? = some v → R M x v) →
    Calls P f vals w fun e w' => ∃ v M', e = .returned v ∧ Below w.heap.size w w' ∧ MLe M M' ∧ (∀ b o v, M' b o = some v → M b o = some v ∨ w.heap.size ≤ b) ∧ MemOk M' w' ∧ ResO M' w w' sz n cells v
def FitO (rs : List ResultVar) (s : AS) (sz n : Nat) (cells : List AV) : Prop :=
  ∃ t q cap, rs = [.tmp t] ∧ get t s.t = some (.mp q (some (sz, 0, n, cap))) ∧ get q s.b = some (cells.map .v)
def PostO (rs : List ResultVar) (sz n : Nat) (cells : List AV) (e : Exit) (s : AS) : Prop := (e = .normal ∨ e = .ret) ∧ FitO rs s sz n cells
section
variable {P : Program} {E : E0} {g : GS} {w w' : World} {σ σ' : AS} {a : Act} {o : Oper} {d : Nat} {x : TV} {v : Value} {M M' : Mem} {Q : Exit → AS → Prop} {K : AS → Prop} {sz n cap : Nat} {cells : List AV}
theorem fco_of_body {f : FuncId} {fn : Func} {c : Code} {args : List AV} {sz n : Nat} {cells : List AV} {nt : Nat} {rs : List ResultVar} {ts : List (Nat × TV)} (hf : P.funcs[f]? = some fn) (hb : fn.body = some c) (hnt : fn.ntmps = nt) (hrs : fn.results.toList = rs) (ht : argT 0 args = ts) (hname : (fn.name == "runtime.NumGoroutine") = false) (hn : args.length ≤ nt)
    (h : Tri P none 0 c ⟨nt, ts, [], []⟩ (PostO rs sz n cells)) : FCO P f args sz n cells := by
  subst hnt; subst hrs; subst ht
  refine ⟨fun vs w => by have hn' : ¬ fn.name = "runtime.NumGoroutine" := (by simpa using hname); simp [callFunc, hf, hn', hb], fun M w vals hM hTab hlen hR => ?_⟩
  refine callsIn_wide.1 (callsIn_of_wp_marks (F := Fence.wide) (n := 0) hf hb trivial (wpIn_mono (h ⟨gp M, w, hTab, fun p _ => gp_X M p.1⟩ (fun l hl => by cases hl) _ w ⟨gp M, ?_, ?_, Ext.refl _ _⟩) ?_))
  · exact
    { mem := hM
      box := fun t cs ht => by simp [get] at ht
      ij := fun s s' b hs => by simp [gp] at hs
      ik := fun s s' b hs => by simp only [gp] at hs; split at hs <;> cases hs
      ap := fun s s' b hs => by simp [gp] at hs
      ltφ := fun s b hs => by simp [gp] at hs
      ltκ := fun s b hs => by simp only [gp] at hs; split at hs <;> cases hs
      nφ := fun s b o hs => by simp [gp] at hs
      live := fun s hs => by simp at hs
      dfr := fun j hj => by simp [gp] at hj
      dnd := List.nodup_nil
      dX := fun j hj => by simp [gp] at hj }
  · refine ⟨rfl, ?_, fun t y hy => ?_, by simp [gp]⟩
    · show (vals ++ Array.replicate (fn.ntmps - vals.size) Go.undef).size = fn.ntmps
      simp; omega
    · obtain ⟨_, z, q2, rfl⟩ := get_argT args 0 t y hy
      simp only [Nat.sub_zero] at q2
      have hlt : t < args.length := (List.getElem?_eq_some_iff.1 q2).1
      refine ⟨by show t < fn.ntmps; omega, .v _ _ (hR t z _ q2 ?_)⟩
      show vals[t]? = some ((vals ++ Array.replicate (fn.ntmps - vals.size) Go.undef).getD t Go.undef)
      rw [Array.getD_eq_getD_getElem?, Array.getElem?_append_left (by omega)]
      have : t < vals.size := by omega
      simp [this]
  · rintro e a' w1 ⟨σ', ⟨he, hfit⟩, g0, h1', h2', h3'⟩
    suffices hend : ∀ w' : World, (∀ j, j ∉ g0.D → w'.heap[j]? = w1.heap[j]?) → w'.heap.size = w1.heap.size → w'.os = w1.os → w'.tape = w1.tape → w'.output = w1.output →
        ∃ v, (results fn a'.tmps).run P w' = .ok v w' ∧ (∃ v' M', Ending.returned v = .returned v' ∧ Below w.heap.size w w' ∧ MLe M M' ∧ (∀ b o v, M' b o = some v → M b o = some v ∨ w.heap.size ≤ b) ∧ MemOk M' w' ∧ ResO M' w w' sz n cells v') by
      have := takes (F := Fence.wide) (n := 0) (P := P) (fn := fn) (tmps := a'.tmps) (R := fun e w' => ∃ v M', e = .returned v ∧ Below w.heap.size w w' ∧ MLe M M' ∧ (∀ b o v, M' b o = some v → M b o = some v ∨ w.heap.size ≤ b) ∧ MemOk M' w' ∧ ResO M' w w' sz n cells v) g0.D w1 h1'.dnd h1'.dfr hend
      rw [← h2'.1] at this
      rcases he with rfl | rfl <;> exact this
    intro w' d1 d2 d3 d4 d5
    have hXD : ∀ j, g0.X j → j ∉ g0.D := fun j hx hj => h1'.dX j hj hx
    have hMD : ∀ b o v, g0.M b o = some v → b ∉ g0.D := fun b o v hv hj => by
      have hdj := h1'.dfr b hj
      have := (h1'.mem b o v hv).1
      simp [World.cell?, hdj] at this
    have hDw : ∀ j ∈ g0.D, w.heap.size ≤ j := fun j hj => by
      rcases h3'.dn j hj with h | h
      · exact h
      · simp [gp] at h
    obtain ⟨g, hg⟩ : ∃ g, g = g0.re g0.M [] := ⟨_, rfl⟩
    have h1 : Wf g w' σ'.b σ'.k := by
      rw [hg]
      exact h1'.fgn (fun j _ hx => d1 j (hXD j hx)) (by omega) (MLe.refl _) (fun _ _ _ h => .inl h) (fun b o v hv => by
        rw [World.cell?_of_block (d1 b (hMD b o v hv))]; exact h1'.mem b o v hv) (fun j hj => by cases hj) List.nodup_nil (fun j hj => by cases hj)
    have h2 : Tmps g w' σ' { a' with defers := [] } := by
      rw [hg]
      exact h2'.fgn h1' rfl rfl (fun j _ hx => d1 j (hXD j hx)) (MLe.refl _) (fun _ _ _ h => .inl h)
    have h3 : Ext (gp M) w g w' := by
      rw [hg]
      exact h3'.fgn (fun j (hj : j < w.heap.size) _ => d1 j (fun hjd => by have := hDw j hjd; omega)) (by omega) d3 d4 d5 (MLe.refl _) (fun _ _ _ h => .inl h) (fun j hj => by cases hj)
    have hX : ∀ b, ¬ (gp M).X b := by
      rintro b (⟨s, hs⟩ | ⟨s, hs⟩)
      · simp [gp] at hs
      · simp only [gp] at hs; split at hs <;> cases hs
    have hbel : Below w.heap.size w w' := ⟨h3.os, h3.tape, h3.output, h3.size, fun j hj => h3.heap j hj (hX j)⟩
    have hMn : ∀ b o v, g.M b o = some v → M b o = some v ∨ w.heap.size ≤ b := fun b o v hv => by
      rcases h3.Mn b o v hv with q | q | q
      · exact .inl q
      · exact .inr q
      · exact absurd q (hX b)
    obtain ⟨t, q, cap, hrs, hg, hbx⟩ := hfit
    obtain ⟨_, hRT⟩ := h2.2.2.1 t _ hg
    obtain ⟨b, hφ, hv, hnc, hmx⟩ := mp_inv hRT
    obtain ⟨b', vs, ty, q1, q2, q3, q4, q5⟩ := h1.box q _ hbx
    rw [hφ] at q1; cases q1
    have hu : (resM a'.tmps (.tmp t)).run P w' = .ok (a'.tmps.getD t Go.undef) w' := rfl
    have hrun := results_run (P := P) (fn := fn) (a := a') (w := w') (us := [a'.tmps.getD t Go.undef]) (by rw [hrs, List.mapM_cons]; simp only [Sem.run_bind, hu, Result.andThen_ok]; rfl)
    refine ⟨a'.tmps.getD t Go.undef, by simpa using hrun, a'.tmps.getD t Go.undef, g.M, rfl, hbel, h3.M, hMn, h1.mem, b, cap, vs, ty, hv, hnc, hmx, ?_, q2, by simpa using q3, fun j c v hc hvj => ?_, q5⟩
    · rcases h3.φn q b hφ with h | h
      · exact h
      · exact absurd h (hX b)
    · have := q4 j (.v c) v (by rw [List.getElem?_map, hc]; rfl) hvj
      exact ⟨v_inv this.1, this.2⟩

def GS.own (g : GS) (d b : Nat) : GS := { g with φ := fun t => if t = d then some b else g.φ t, κ := fun t => if t = d then none else g.κ t }
theorem own_rel (h1 : Wf g w σ.b σ.k) (h2 : Tmps g w σ a) (h3 : Ext E.g E.w g w) (hd : d < σ.n) (hd' : d < 999999) {b : Nat} {vs : Array Value} {ty : TypeId} (hheap : w.heap[b]? = some (.cells vs ty (0, 0))) (hl : cells.length = vs.size)
    (hc : ∀ (j : Nat) c v, cells[j]? = some c → vs[j]? = some v → R g.M c v ∧ v.oneCell' = true) (hM : ∀ o, g.M b o = none) (hn : n ≤ cap) (hm : cap ≤ maxLen)
    (hob : E.w.heap.size ≤ b ∧ b < w.heap.size ∧ ¬ g.X b ∧ b ∉ g.D) : Rel E (σ.newOwn d sz n cap (cells.map .v)) (a.put (some d) (.slice (some ⟨b, 0, none⟩) n cap)) w := by
  have kφ : ∀ {t c}, (g.own d b).φ t = some c → (t = d ∧ c = b) ∨ (t ≠ d ∧ g.φ t = some c) := fun {t c} ht => by
    simp only [GS.own] at ht; split at ht
    · rename_i h; cases ht; exact .inl ⟨h, rfl⟩
    · rename_i h; exact .inr ⟨h, ht⟩
  have kκ : ∀ {t c}, (g.own d b).κ t = some (some c) → t ≠ d ∧ g.κ t = some (some c) := fun {t c} ht => by simp only [GS.own] at ht; split at ht <;> simp_all
  have keep : ∀ {y : TV} {u : Value}, RT g w y u → RT (g.own d b) w (y.kill d) u := fun {y u} hy =>
    RT.keepK (g := g) (g' := g.own d b) (w := w) (fun _ _ _ h => h) (fun t b ht hb => by simp [GS.own, ht, hb]) (fun t ob ht hob => ⟨by simpa [GS.own, ht] using hob, fun _ _ => ⟨rfl, fun _ h => h⟩⟩) hy
  have hφd : (g.own d b).φ d = some b := by simp [GS.own]
  refine ⟨g.own d b, ?_, ?_, ?_⟩
  · exact
    { mem := h1.mem
      box := fun t cs' ht => by
        simp only [AS.newOwn, get] at ht
        cases htd : t == d
        · simp only [htd, cond_false] at ht
          obtain ⟨e1, cs, e2, rfl⟩ := get_killB d t σ.b cs' ht
          obtain ⟨b', vs', e, q1, q2, q3, q4, q5⟩ := h1.box t cs e2
          refine ⟨b', vs', e, by simp [GS.own, e1, q1], q2, by simpa using q3, fun j c v hc' hv => ?_, q5⟩
          rw [← killL_map] at hc'
          obtain ⟨c0, h0, rfl⟩ := getElem?_killL hc'
          exact ⟨keep (q4 j c0 v h0 hv).1, (q4 j c0 v h0 hv).2⟩
        · simp only [htd, cond_true, Option.some.injEq] at ht
          simp only [beq_iff_eq] at htd
          subst ht; subst htd
          refine ⟨b, vs, ty, hφd, hheap, by simpa using hl, fun j c v hc' hv => ?_, hM⟩
          rw [List.getElem?_map] at hc'
          cases hcj : cells[j]? with
          | none => simp [hcj] at hc'
          | some c0 =>
            simp only [hcj, Option.map_some, Option.some.injEq] at hc'
            subst hc'
            exact ⟨.v _ _ (hc j c0 v hcj hv).1, (hc j c0 v hcj hv).2⟩
      ij := fun t t' c ht ht' => by
        rcases kφ ht with ⟨a1, a2⟩ | ⟨a1, a2⟩ <;> rcases kφ ht' with ⟨c1, c2⟩ | ⟨c1, c2⟩
        · rw [a1, c1]
        · subst a2; exact absurd (.inl ⟨t', c2⟩) hob.2.2.1
        · subst c2; exact absurd (.inl ⟨t, a2⟩) hob.2.2.1
        · exact h1.ij t t' c a2 c2
      ik := fun t t' c ht ht' => h1.ik t t' c (kκ ht).2 (kκ ht').2
      ap := fun t t' c ht ht' => by
        rcases kφ ht with ⟨a1, a2⟩ | ⟨a1, a2⟩
        · subst a2; exact absurd (.inr ⟨t', (kκ ht').2⟩) hob.2.2.1
        · exact h1.ap t t' c a2 (kκ ht').2
      ltφ := fun t c ht => by
        rcases kφ ht with ⟨a1, a2⟩ | ⟨a1, a2⟩
        · subst a2; exact hob.2.1
        · exact h1.ltφ t c a2
      ltκ := fun t c ht => h1.ltκ t c (kκ ht).2
      nφ := fun t c o ht => by
        rcases kφ ht with ⟨a1, a2⟩ | ⟨a1, a2⟩
        · subst a2; exact hM o
        · exact h1.nφ t c o a2
      live := fun t ht => by
        simp only [AS.newOwn] at ht
        obtain ⟨e1, e2⟩ := mem_killK d t σ.k ht
        simpa [GS.own, e1] using h1.live t e2
      dfr := h1.dfr
      dnd := h1.dnd
      dX := fun j hj hx => by
        rcases hx with ⟨t, ht⟩ | ⟨t, ht⟩
        · rcases kφ ht with ⟨a1, a2⟩ | ⟨a1, a2⟩
          · subst a2; exact hob.2.2.2 hj
          · exact h1.dX j hj (.inl ⟨t, a2⟩)
        · exact h1.dX j hj (.inr ⟨t, (kκ ht).2⟩) }
  · refine Tmps.cons (σ := σ) (ts := killT d σ.t) ?_ hd (.mp d _ _ _ hφd (.sl _ _ _ _ hn hm))
    refine ⟨h2.1, h2.2.1, fun t y hy => ?_, by simp only [GS.own]; rw [if_neg (by omega)]; exact h2.2.2.2⟩
    simp only [get_killT] at hy
    cases hg : get t σ.t with
    | none => simp [hg] at hy
    | some z =>
      simp only [hg, Option.map_some, Option.some.injEq] at hy
      subst hy
      exact ⟨(h2.2.2.1 t z hg).1, keep (h2.2.2.1 t z hg).2⟩
  · exact
    { h3 with
      φ := fun t c ht hb => by simp only [GS.own]; rw [if_neg (by omega)]; exact h3.φ t c ht hb
      φn := fun t c hc => by
        rcases kφ hc with ⟨a1, a2⟩ | ⟨a1, a2⟩
        · subst a2; exact .inl hob.1
        · exact h3.φn t c a2
      κn := fun t c hc => h3.κn t c (kκ hc).2 }

theorem lead_callO {fid : FuncId} {args : Array Operand} {ats : Array TypeId} {as : List AV} (ho : o.op = .call { callee := .value (.func fid), args := args, argTypes := ats }) (hdst : o.dst = some d) (hd : d < σ.n) (hd' : d < 999999)
    (ha : datArgs P σ args.toList ats.toList = some as) (hfc : FCO P fid as sz n cells) (h : ∀ cap, n ≤ cap → K (σ.newOwn d sz n cap (cells.map .v))) : Leads P σ o K := by
  intro ro m E a w K' Q' hr hK
  obtain ⟨hent, hfc⟩ := hfc
  obtain ⟨g, h1, h2, h3⟩ := hr
  obtain ⟨vs, hfv, hcn, hcR⟩ := fnOf_ok (f := fid) (cs := []) (ev_rt h2 (.func fid)) rfl
  obtain ⟨han, haR⟩ := datArgs_ok h2 ha
  have hvs : vs = #[] := by
    have : vs.size = 0 := by simpa using hcn.symm
    exact Array.eq_empty_of_size_eq_zero this
  subst hvs
  have hcall := hfc g.M w (args.map a.eval) h1.mem (E.tabAt h3) (by simp [← han]) (fun j y v hy hv => haR j y v hy (by simpa using hv))
  refine ⟨fenceW o w _, ?_⟩
  rw [show o.semAt (Fw ro).round a.eval = execOp a.eval o from Oper.semAt_eq _ _ _ (by simp [ho])]
  have hrun : (execOp a.eval o).run P w = .ok (.enter fid (args.map a.eval)) w := by
    simp only [execOp, ho, Sem.run_bind, resolve, hfv]
    simp [Deferred.ofValue, invoke, hent]
  rw [hrun]
  refine ⟨fun hd => by simp [Fw, Fence.wide] at hd, ?_⟩
  show CallsIn Fence.wide (m - 1) P fid _ w _
  refine callsIn_wide.2 (hcall.mono ?_)
  rintro e w' ⟨v, M', rfl, hb, hM, hn, hm, b, cap, us, ty, rfl, q1, q2, q3, q4, q5, q6, q7⟩
  have hsz := h3.size
  refine hK _ _ _ (h cap q1) ?_
  rw [hdst]
  refine own_rel (h1.more hb hM hn hm) (h2.more h1 hb hM hn) (h3.more hb hM hn) hd hd' q4 q5 q6 q7 q1 q2 ⟨by omega, (Array.getElem?_eq_some_iff.1 q4).1, ?_, fun hj => by have := (Array.getElem?_eq_some_iff.1 (h1.dfr b hj)).1; omega⟩
  rintro (⟨s, hs⟩ | ⟨s, hs⟩)
  · have := h1.ltφ s b hs; omega
  · have := h1.ltκ s b hs; omega
end
end Go.Proofs.YtenigafbbdjagaaDoor.AL

/- Regions that leave their order open, but for a tail: what the machine does behind; an element appended and then written. -/
namespace Go.Proofs.YtenigafbbdjagaaDoor.AL
open Go Go.RowKit
set_option linter.unusedVariables false
set_option linter.unusedSimpArgs false
/-- What the machine does at operations in order. -/
def semS (P : Program) (ro : Option Nat) (n : Nat) (ops : Array Oper) (Q' : Exit → Act → World → Prop) : List Oper → Act → World → Prop
  | [], a, w => Q' .normal a w
  | o :: rest, a, w => if Region.wanted o (yielded ops a.tmps) = true then o.wpIn (Fw ro) n P a w (fun a w => semS P ro n ops Q' rest a w) Q' else semS P ro n ops Q' rest (a.put o.dst Go.undef) w
def SemT (P : Program) (ops : Array Oper) (l : List Oper) (σ : AS) (K : AS → Prop) : Prop :=
  ∀ (ro : Option Nat) (n : Nat) (E : E0) (a : Act) (w : World) (Q' : Exit → Act → World → Prop), Rel E σ a w → (∀ s a w, K s → Rel E s a w → Q' .normal a w) → semS P ro n ops Q' l a w
section
variable {P : Program} {ro : Option Nat} {n : Nat} {E : E0} {σ : AS} {ops : Array Oper} {all recs : RL} {listed : Array Bool} {k0 : List Nat} {K : AS → Prop}
theorem semT_seq : ∀ (l : List Oper) {σ : AS}, SeqOps P ops.toList l σ K → SemT P ops l σ K
  | [], σ, h => fun ro n E a w Q' hr hK => hK _ _ _ h hr
  | o :: rest, σ, h => fun ro n E a w Q' hr hK => by
    obtain ⟨c, hc, h1, h2⟩ := h
    have hw := want_ok hr hc
    simp only [semS]
    cases c with
    | true => rw [if_pos hw]; exact step_ok hr (h1 rfl) fun σ' a' w' h' hr' => semT_seq rest h' ro n E a' w' Q' hr' hK
    | false =>
      rw [if_neg (by simp [hw])]
      obtain ⟨σ', hs', hr'⟩ := skip_ok hr (h2 rfl)
      exact semT_seq rest hs' ro n E _ w Q' hr' hK

theorem phase2S {Q' : Exit → Act → World → Prop} : ∀ (fuel : Nat) (τ prev : List Nat) (listed : Array Bool) (a : Act) (w : World), okT ops prev τ = true → listed.size = ops.size →
    (∀ i, i < ops.size → i ∈ prev ∨ i ∈ τ) → (∀ i ∈ prev, Lst listed i) → (∀ j ∈ τ, ¬ Lst listed j) → left listed.size listed ≤ fuel → semS P ro n ops Q' (tails ops.toList τ) a w → wpAnyIn (Fw ro) n P .any ops Q' fuel listed a w := by
  intro fuel
  have done : ∀ (fuel : Nat) (prev : List Nat) (listed : Array Bool) (a : Act) (w : World), listed.size = ops.size → (∀ i, i < ops.size → i ∈ prev ∨ i ∈ ([] : List Nat)) → (∀ i ∈ prev, Lst listed i) → Q' .normal a w → wpAnyIn (Fw ro) n P .any ops Q' fuel listed a w := by
    intro fuel prev listed a w hs hcov hp hk
    refine wpAnyIn_done ?_ hk fuel
    refine List.eq_nil_iff_forall_not_mem.2 fun i hi => ?_
    obtain ⟨h1, o, ho, _⟩ := (ready_iff hs).1 hi
    have hlt : i < ops.size := (Array.getElem?_eq_some_iff.1 ho).1
    exact h1 (hp i ((hcov i hlt).resolve_right (by simp)))
  induction fuel with
  | zero =>
    intro τ prev listed a w hT hs hcov hp hτ hl hq
    cases τ with
    | nil => exact done _ prev listed a w hs hcov hp hq
    | cons j τ =>
      obtain ⟨o, ho, _⟩ := okT_cons hT
      exact absurd (left_zero (Nat.le_zero.1 hl) (i := j) (by rw [hs]; exact (Array.getElem?_eq_some_iff.1 ho).1)) (hτ j (by simp))
  | succ fuel ih =>
    intro τ prev listed a w hT hs hcov hp hτ hl hq
    cases τ with
    | nil => exact done _ prev listed a w hs hcov hp hq
    | cons j τ =>
      obtain ⟨o, ho, hd1, hd2, hj, hT'⟩ := okT_cons hT
      have hjlt : j < listed.size := by rw [hs]; exact (Array.getElem?_eq_some_iff.1 ho).1
      have hjn := hτ j (by simp)
      have hjr : j ∈ Region.ready .any ops listed := (ready_iff hs).2 ⟨hjn, o, ho, fun k hk => hp k (hd1 k hk)⟩
      refine ⟨fun h0 => (by rw [h0] at hjr; cases hjr), fun i hi => ?_⟩
      have hij : i = j := by
        obtain ⟨h1, o', ho', hdep⟩ := (ready_iff hs).1 hi
        have hlt : i < ops.size := (Array.getElem?_eq_some_iff.1 ho').1
        rcases hcov i hlt with h | h
        · exact absurd (hp i h) h1
        · rcases List.mem_cons.1 h with rfl | h
          · rfl
          · obtain ⟨o2, ho2, hd⟩ := okT_dep hT' i h
            rw [ho'] at ho2; cases ho2
            exact absurd (hdep j (hd j (by simp))) hjn
      subst hij
      have next : ∀ a' w', semS P ro n ops Q' (tails ops.toList τ) a' w' → wpAnyIn (Fw ro) n P .any ops Q' fuel (listed.setIfInBounds i true) a' w' := fun a' w' hq' => by
        refine ih τ (i :: prev) _ a' w' hT' (by simpa using hs) (fun k hk => ?_) (fun k hk => ?_) (fun k hk hkl => ?_) ?_ hq'
        · rcases hcov k hk with h | h
          · exact .inl (by simp [h])
          · rcases List.mem_cons.1 h with rfl | h
            · exact .inl (by simp)
            · exact .inr h
        · rcases List.mem_cons.1 hk with rfl | hk
          · exact (lst_set hjlt).2 (.inl rfl)
          · exact (lst_set hjlt).2 (.inr (hp k hk))
        · rcases (lst_set hjlt).1 hkl with rfl | h
          · obtain ⟨o2, ho2, hd⟩ := okT_dep hT' k hk
            rw [ho] at ho2; cases ho2
            have h5 := hd1 k (hd k (by simp))
            exact hj h5
          · exact hτ k (by simp [hk]) h
        · have := left_set hjlt hjn
          simp only [Array.size_setIfInBounds]
          omega
      have hto : ops.toList[i]? = some o := by simpa using ho
      simp only [tails, hto] at hq
      unfold wpOpIn
      simp only [ho]
      simp only [semS] at hq
      by_cases hw : Region.wanted o (yielded ops a.tmps) = true
      · rw [if_pos hw] at hq ⊢
        exact Oper.wpIn_mono next hq
      · rw [if_neg hw] at hq
        rw [if_neg hw]
        exact ⟨fenceW o w _, next _ _ hq⟩

theorem phase1S {K : AS → Prop} {τ : List Nat} {Q' : Exit → Act → World → Prop} (hK : ∀ s a w, K s → Rel E s a w → Q' .normal a w) (hg : GoodR P ops.toList σ recs) (hd : okD ops σ τ recs = true) (hq : SemT P ops (tails ops.toList τ) (fullS recs σ) K) :
    ∀ (fuel : Nat) (listed : Array Bool) (a : Act) (w : World), listed.size = ops.size → left listed.size listed ≤ fuel → (∀ p ∈ recs, Lst listed p.1 → ∀ o, ops[p.1]? = some o → ∀ k, dep o k = true → Lst listed k) →
      (∀ j ∈ τ, ¬ Lst listed j) → Rel E (fullS (lf recs listed) σ) a w → wpAnyIn (Fw ro) n P .any ops Q' fuel listed a w := by
  simp only [okD, Bool.and_eq_true] at hd
  obtain ⟨⟨⟨hR, hS⟩, hT⟩, hC⟩ := hd
  obtain ⟨u1, u2, u3⟩ := okR_ud hR
  have hat := good_at hg hR
  have hcov : ∀ i, i < ops.size → i ∈ recs.map (·.1) ∨ i ∈ τ := fun i hi => by
    simp only [okC, List.all_eq_true, List.mem_range, List.contains_eq_mem, decide_eq_true_eq, List.mem_append] at hC
    exact hC i hi
  have hSp : ∀ p ∈ recs, isMk p.2 = true → hasnT p.2.d σ.t = true ∧ hasnB p.2.d σ.b = true ∧ keyn p.2.d σ.b = true ∧ memK p.2.d σ.k = false ∧ ∀ q ∈ recs, ∀ c, q.2.bx = some c → hasnL p.2.d c = true := fun p hp hm => by
    simp only [okS, List.all_eq_true, Bool.or_eq_true, Bool.not_eq_true', Bool.and_eq_true] at hS
    obtain ⟨h1, h2, h3, h4, h5⟩ := (hS p hp).resolve_left (by simp [hm])
    exact ⟨h1, h2, h3, h4, fun q hq c hc => by have := h5 q hq; rw [hc] at this; exact this⟩
  intro fuel
  have full : ∀ (fuel : Nat) (listed : Array Bool) (a : Act) (w : World), listed.size = ops.size → left listed.size listed ≤ fuel → (∀ j ∈ τ, ¬ Lst listed j) → (∀ p ∈ recs, Lst listed p.1) → Rel E (fullS (lf recs listed) σ) a w → wpAnyIn (Fw ro) n P .any ops Q' fuel listed a w := by
    intro fuel listed a w hs hl hτ hall hr
    have e : lf recs listed = recs := List.filter_eq_self.2 fun p hp => hall p hp
    rw [e] at hr
    exact phase2S fuel τ (recs.map (·.1)) listed a w hT hs hcov (fun i hi => by obtain ⟨p, hp, rfl⟩ := List.mem_map.1 hi; exact hall p hp) hτ hl (hq ro n E a w Q' hr hK)
  induction fuel with
  | zero =>
    intro listed a w hs hl hdc hτ hr
    refine full 0 listed a w hs hl hτ (fun p hp => ?_) hr
    obtain ⟨suf, o, _, _, h1, _⟩ := hat p hp
    exact left_zero (Nat.le_zero.1 hl) (by rw [hs]; exact (Array.getElem?_eq_some_iff.1 h1.at_).1)
  | succ fuel ih =>
    intro listed a w hs hl hdc hτ hr
    by_cases hall : ∀ p ∈ recs, Lst listed p.1
    · exact full _ listed a w hs hl hτ hall hr
    refine ⟨fun h0 => absurd (all_listed hs h0 hR) hall, fun i hi => ?_⟩
    obtain ⟨hin, o, ho, hdep⟩ := (ready_iff hs).1 hi
    have hlt : i < ops.size := (Array.getElem?_eq_some_iff.1 ho).1
    have hlt' : i < listed.size := by rw [hs]; exact hlt
    rcases hcov i hlt with h | h
    · obtain ⟨⟨i', r⟩, hp, e⟩ := List.mem_map.1 h
      simp only at e
      subst e
      obtain ⟨suf, o', hsuf, hokS, h1, hok, hus⟩ := hat _ hp
      have e : o' = o := by have := h1.at_; simp only at this; rw [ho] at this; exact (Option.some.inj this).symm
      subst e
      have huL : UD (lf recs listed) := fun p hp q hq => u1 p (mem_lf.1 hp).1 q (mem_lf.1 hq).1
      have hnL : (i', r) ∉ lf recs listed := fun h => hin (mem_lf.1 h).2
      have hdep' : ∀ p ∈ suf, dep o' p.1 = true → p ∈ lf recs listed := fun p hp hd => mem_lf.2 ⟨hsuf p hp, hdep _ hd⟩
      refine drawOp_step (L := lf recs listed) (L' := lf recs (listed.setIfInBounds i' true)) h1.at_ hok (fun t ht => ?_) (fun p => ?_) (fun p hp q hq => u1 p (mem_lf.1 hp).1 q (mem_lf.1 hq).1) hnL (fun p hp hb => ?_) (fun hmk => ?_) (fun s hs' h9 hm => ?_) hr fun a' w' hr' => ?_
      · rcases h1.opd t ht with ⟨p, hp', rfl, hd⟩ | hno
        · rw [getT_in hus hp', getT_in huL (hdep' p hp' hd)]
        · rw [getT_out fun p hp' => hno p (hsuf p hp'), getT_out fun p hp' => hno p (mem_lf.1 hp').1]
      · rw [mem_lf, mem_lf, lst_set hlt']
        constructor
        · rintro ⟨h2, e | h3⟩
          · exact .inl (u2 p h2 (i', r) hp e)
          · exact .inr ⟨h2, h3⟩
        · rintro (rfl | ⟨h2, h3⟩)
          · exact ⟨hp, .inl rfl⟩
          · exact ⟨h2, .inr h3⟩
      · exact keyn_get (hSp p (mem_lf.1 hp).1 (by simp [isMk, hb])).2.2.1
      · have hmk' : isMk r = true := by simpa [isMk] using hmk
        obtain ⟨s1, s2, s3, s4, s5⟩ := hSp _ hp hmk'
        refine ⟨s1, s2, fun q hq => ?_, fun q hq c hc => s5 q (mem_lf.1 hq).1 c hc, ?_, fun hk => ?_⟩
        · cases hh : q.2.v.hasn r.d with
          | true => rfl
          | false =>
            exfalso
            obtain ⟨q1, q2⟩ := mem_lf.1 hq
            exact hin (men_listed (m := (i', r)) hp hmk' hdc (fun q hq => hq) hR q q1 q2 hh)
        · rw [getB_out fun p hp' hb e => ?_]
          · exact keyn_get s3
          · have := u1 p (mem_lf.1 hp').1 (i', r) hp e
            rw [this] at hp'
            exact hnL hp'
        · obtain ⟨k1, _⟩ := mem_kdrop.1 hk
          rcases mem_rK0.1 k1 with ⟨p, hp', _, e⟩ | k2
          · have := u1 p (mem_lf.1 hp').1 (i', r) hp e
            rw [this] at hp'
            exact hnL hp'
          · rw [memK_iff.2 k2] at s4; cases s4
      · refine mem_kdrop.2 ⟨mem_rK0.2 ?_, fun hc => ?_⟩
        · rcases h1.cns s hs' h9 with h2 | ⟨p, hp', e1, e2, e3⟩
          · exact .inr h2
          · exact .inl ⟨p, hdep' p hp' e3, e2, e1⟩
        · obtain ⟨q, hq, hqc⟩ := mem_rC.1 hc
          have := u3 q (mem_lf.1 hq).1 (i', r) hp s h9 hqc hs'
          rw [this] at hq
          exact hnL hq
      · refine ih _ a' w' (by simpa using hs) ?_ (fun p hp hl o'' ho'' k hk => ?_) (fun j hj hl => ?_) hr'
        · have := left_set hlt' hin
          simp only [Array.size_setIfInBounds]
          omega
        · refine (lst_set hlt').2 (.inr ?_)
          rcases (lst_set hlt').1 hl with e | hl
          · rw [e, ho] at ho''; cases ho''; exact hdep k hk
          · exact hdc p hp hl o'' ho'' k hk
        · rcases (lst_set hlt').1 hl with rfl | hl
          · obtain ⟨o2, ho2, hd2⟩ := okT_dep hT j hj
            rw [ho] at ho2; cases ho2
            exact hin (hdep j (hd2 j (List.mem_map.2 ⟨(j, r), hp, rfl⟩)))
          · exact hτ j hj hl
    · obtain ⟨o2, ho2, hd⟩ := okT_dep hT i h
      rw [ho] at ho2; cases ho2
      exact absurd (fun p hp => hdep _ (hd p.1 (List.mem_map.2 ⟨p, hp, rfl⟩))) hall

theorem tri_drawS {id : Nat} {ops : List Oper} {Q : Exit → AS → Prop} (hm : P.follows .mixedOrders = true) (order τ : List Nat)
    (h : DSeq P ops σ order [] fun recs => okD ops.toArray σ τ recs = true ∧ SemT P ops.toArray (tails ops τ) (fullS recs σ) (Q .normal)) : Tri P ro n (.region id ops.toArray true) σ Q := by
  intro E hE a w hr
  refine wpIn_region_any hm ?_
  obtain ⟨recs, hg, hd, hq⟩ := dseq_good (P := P) (σ := σ) (ops := ops.toArray) (order := order) (acc := []) (K := fun recs => okD ops.toArray σ τ recs = true ∧ SemT P ops.toArray (tails ops τ) (fullS recs σ) (Q .normal)) (by simpa using h) (by simp [GoodR])
  have hne : ∀ i, ¬ Lst (Array.replicate ops.toArray.size false) i := fun i hi => by
    unfold Lst at hi
    simp [Array.getD] at hi
  have hdrew : Rel E σ a { w with drawn := w.drawn + 1 } := by
    obtain ⟨g, h1, h2, h3⟩ := hr
    refine ⟨g, h1.heap rfl, ⟨h2.1, h2.2.1, fun t x hx => ⟨(h2.2.2.1 t x hx).1, (h2.2.2.1 t x hx).2.heap rfl⟩, h2.2.2.2⟩, h3.trans Ext.drew⟩
  have hl : left (Array.replicate ops.toArray.size false).size (Array.replicate ops.toArray.size false) ≤ ops.toArray.size := by
    unfold left
    refine Nat.le_trans (List.length_filter_le _ _) ?_
    simp
  refine phase1S (ops := ops.toArray) (recs := recs) (τ := τ) (K := Q .normal) (fun s a' w' hk hr' => ⟨s, hk, hr'⟩) hg hd (by simpa using hq) _ _ _ _ (by simp) hl (fun p _ hl => absurd hl (hne _)) (fun j _ => hne j) ?_
  have e : lf recs (Array.replicate ops.toArray.size false) = [] := List.filter_eq_nil_iff.2 fun p hp => by
    have := hne p.1
    simpa [Lst] using this
  rw [e]
  exact hdrew
end
end Go.Proofs.YtenigafbbdjagaaDoor.AL

/- An element appended and then written, in one. -/
namespace Go.Proofs.YtenigafbbdjagaaDoor.AL
open Go Go.RowKit
set_option linter.unusedVariables false
set_option linter.unusedSimpArgs false
section
variable {P : Program} {E : E0} {g : GS} {w w' : World} {σ : AS} {a : Act} {o : Oper} {d : Nat} {x : TV} {v : Value} {M : Mem}
theorem list_row {α : Type} (A N C M : List α) (h : M.length = N.length) : (A ++ N ++ C).take A.length ++ M ++ (A ++ N ++ C).drop (A.length + M.length) = A ++ M ++ C := by
  rw [List.append_assoc A N C, List.take_left, h, ← List.drop_drop, List.drop_left, List.drop_left]
/-- An element appended that is zero, and then written. -/
theorem push_ok (h1 : Wf g w σ.b σ.k) (h2 : Tmps g w σ a) (h3 : Ext E.g E.w g w) (hd : d < σ.n) (hd' : d < 999999) {t tx ty e : TypeId} {sz bytes s : Nat} {xs zs : List AV} {yv : AV} {u y : Value}
    (ht : aty P t = .slice e sz bytes) (hz : zeroC P e = some zs) (hz0 : sz ≠ 0) (hzs : zs.length = sz)
    (hs : Live σ.k s) (hs9 : s ≤ 999999) (hb : (xs.length + 1) * bytes ≤ 140737488355328) (hml : xs.length + 1 ≤ 9223372036854775807)
    (hu0 : RT g w (.ap sz xs s) u) (hyc : yv.cells.length = sz) {news0 : List Value} (hsrc : Src P sz tx y 1 news0 w) :
    ∃ b cap w4, (Builtin.append_ #[t, tx] ty #[u, y]).run P w = .ok (.slice (some ⟨b, 0, none⟩) (xs.length + 1) cap) w4 ∧
      ∀ us : List Value, us.length = sz → (∀ v ∈ us, v.oneCell' = true) → (∀ (j : Nat) c v, yv.cells[j]? = some c → us[j]? = some v → R g.M c v) →
        ∃ w6, (∃ cur el, w4.heap[b]? = some (.cells cur el (0, 0)) ∧ xs.length * sz + us.length ≤ cur.size) ∧ (storeCells ⟨b, xs.length * sz, none⟩ us).run P w4 = .ok () w6 ∧ Rel E ⟨σ.n, (d, .ap sz (xs ++ [yv]) d) :: killT d σ.t, killB d σ.b, d :: pushK d s σ.k⟩ (a.put (some d) (.slice (some ⟨b, 0, none⟩) (xs.length + 1) cap)) w6 := by
  have hrel : Rel E σ a w := ⟨g, h1, h2, h3⟩
  obtain ⟨hut, hse, hby⟩ := aty_slice ht
  obtain ⟨i, hi, his⟩ := info_of_sz hse hz0
  have hib : i.bytes = bytes := by simpa [Program.bytesOf, hi] using hby
  obtain ⟨z, hzv, hzl⟩ := zeroC_info hz
  have hzi : i.zero = some z := by simpa [hi] using hzv
  rw [hzs] at hzl
  obtain ⟨hR, hk⟩ : R g.M (.sl sz xs) u ∧ ∀ ob, g.κ s = some ob → Tok g.M w ob sz xs.length u := by
    cases hu0 with
    | ap sz xs s x h hk => exact ⟨h, hk⟩
  obtain ⟨g', g1, g2, g3, hgM⟩ : ∃ g', Wf g' w σ.b (killK s σ.k) ∧ Tmps g' w σ a ∧ Ext E.g E.w g' w ∧ g'.M = g.M := by
    by_cases e : s = 999999
    · exact ⟨g, { h1 with live := fun t ht => h1.live t (mem_killK s t σ.k ht).2 }, h2, h3, rfl⟩
    · refine ⟨g.dropK s, h1.dropK s, ⟨h2.1, h2.2.1, fun t x hx => ⟨(h2.2.2.1 t x hx).1, (h2.2.2.1 t x hx).2.dropK⟩, ?_⟩, h3.dropK s, rfl⟩
      simp only [GS.dropK]; rw [if_neg (by omega)]; exact h2.2.2.2
  have n0l : news0.length = sz := by rw [hsrc.newsLen, Nat.one_mul]
  have hfy : flat [yv] = yv.cells := by simp [flat]
  have key : ∀ (olds : List Value) (base : Option Addr) (sCap : Nat), u = .slice base xs.length sCap → olds.length = xs.length * sz → (∀ x ∈ xs, x.cells.length = sz) →
      (Builtin.firstCells i.size xs.length (.slice base xs.length sCap)).run P w.drew = .ok olds.toArray w.drew →
      (∀ (j : Nat) c, (flat xs)[j]? = some c → ∃ v, olds[j]? = some v ∧ R g.M c v ∧ v.oneCell' = true) → sCap < xs.length + 1 →
      ∃ b cap w4, (Builtin.append_ #[t, tx] ty #[u, y]).run P w = .ok (.slice (some ⟨b, 0, none⟩) (xs.length + 1) cap) w4 ∧
      ∀ us : List Value, us.length = sz → (∀ v ∈ us, v.oneCell' = true) → (∀ (j : Nat) c v, yv.cells[j]? = some c → us[j]? = some v → R g.M c v) →
        ∃ w6, (∃ cur el, w4.heap[b]? = some (.cells cur el (0, 0)) ∧ xs.length * sz + us.length ≤ cur.size) ∧ (storeCells ⟨b, xs.length * sz, none⟩ us).run P w4 = .ok () w6 ∧ Rel E ⟨σ.n, (d, .ap sz (xs ++ [yv]) d) :: killT d σ.t, killB d σ.b, d :: pushK d s σ.k⟩ (a.put (some d) (.slice (some ⟨b, 0, none⟩) (xs.length + 1) cap)) w6 := by
    intro olds base sCap hub hol hxs hfirst holds hlt
    have hrun := run_append_grow_src (P := P) w t tx ty e i z hut hi hzi base xs.length sCap olds hfirst y 1 news0 (by rw [his]; exact hsrc) hlt (by omega) (by
      rw [hib]
      exact growslice_fits hlt hb)
    rw [← hub] at hrun
    refine ⟨_, _, _, hrun, fun us hul huo huR => ?_⟩
    have hge := grownCap_ge w (xs.length + 1) sCap e
    have hcm := grownCap_le_maxLen w (xs.length + 1) sCap e (by unfold maxLen; omega)
    generalize grownCap w (xs.length + 1) sCap e = cap at *
    have hfl := flat_length xs hxs
    obtain ⟨tail, htl⟩ : ∃ tail, tail = Builtin.zeroCells z.cells (cap - (xs.length + 1)) := ⟨_, rfl⟩
    have htz : tail.size = (cap - (xs.length + 1)) * sz := by rw [htl, size_zeroCells, hzl]
    rw [← htl]
    have hcs : ((olds ++ news0).toArray ++ tail).size = cap * sz := by
      simp only [Array.size_append, List.size_toArray, List.length_append, hol, n0l, htz]
      have : cap * sz = (xs.length + 1 + (cap - (xs.length + 1))) * sz := by congr 1; omega
      rw [this, Nat.add_mul, Nat.add_mul, Nat.one_mul]
    have hheap : (w.drew.alloc (.cells ((olds ++ news0).toArray ++ tail) e)).heap[w.heap.size]? = some (.cells ((olds ++ news0).toArray ++ tail) e (0, 0)) := heap_alloc_at w.drew _
    have hle : xs.length * sz + us.length ≤ ((olds ++ news0).toArray ++ tail).size := by
      rw [hul, hcs, ← Nat.succ_mul]; exact Nat.mul_le_mul_right _ hge
    have hst := run_storeCells_at P w.heap.size (xs.length * sz) e us 0 ((olds ++ news0).toArray ++ tail) _ hheap (by simpa using hle) huo
    simp only [Nat.add_zero] at hst
    refine ⟨_, ⟨_, _, hheap, hle⟩, hst, ?_⟩
    have hrow : (((olds ++ news0).toArray ++ tail).toList.take (xs.length * sz) ++ us ++ ((olds ++ news0).toArray ++ tail).toList.drop (xs.length * sz + us.length)) = olds ++ us ++ tail.toList := by
      have e1 : ((olds ++ news0).toArray ++ tail).toList = olds ++ (news0 ++ tail.toList) := by simp
      rw [e1, ← hol, List.take_left, hul, ← n0l, ← List.drop_drop, List.drop_left, List.drop_left]
    rw [hrow]
    have hnew : (w.drew.alloc (.cells ((olds ++ news0).toArray ++ tail) e)).setRow w.heap.size (olds ++ us ++ tail.toList).toArray = w.drew.alloc (.cells (olds ++ us ++ tail.toList).toArray e) := World.setRow_alloc_new w.drew _ _ _
    rw [hnew]
    have := newTok_rel (E := E) (g := g') (σ := ⟨σ.n, σ.t, σ.b, killK s σ.k⟩) (a := a) g1 g2 g3 (w' := w.drew) (d := d) (sz := sz) (cap := cap) (xs := xs ++ [yv]) (vs := (olds ++ us ++ tail.toList).toArray) (e := e)
      rfl rfl rfl rfl hd hd' (by rw [List.length_append]; exact hge) hcm (by
        rw [← hcs]; simp [hul, n0l]; omega) (by
        intro q hq
        rcases List.mem_append.1 hq with hq | hq
        · exact hxs q hq
        · simp only [List.mem_singleton] at hq; rw [hq]; exact hyc) (by
        intro j c hc
        rw [flat_append, hfy, List.getElem?_append] at hc
        rw [hgM, List.getElem?_toArray, List.append_assoc]
        split at hc
        · rename_i hj
          obtain ⟨v, q1, q2, q3⟩ := holds j c hc
          refine ⟨v, ?_, q2, q3⟩
          have hjo : j < olds.length := (List.getElem?_eq_some_iff.1 q1).1
          rw [List.getElem?_append_left hjo, q1]
        · rename_i hj
          have hjy := (List.getElem?_eq_some_iff.1 hc).1
          have hjn : j - (flat xs).length < us.length := by rw [hul]; omega
          refine ⟨us[j - (flat xs).length], ?_, huR _ c _ hc (List.getElem?_eq_getElem hjn), huo _ (List.getElem_mem hjn)⟩
          rw [List.getElem?_append_right (by omega), List.getElem?_append_left (by omega), hol, ← hfl, List.getElem?_eq_getElem hjn])
    simpa [AS.newTok, List.length_append, pushK] using this
  obtain ⟨ob, hob⟩ : ∃ ob, g.κ s = some ob := by
    rcases hs with rfl | hs
    · exact ⟨none, h2.2.2.2⟩
    · have := h1.live s hs
      cases hks : g.κ s with
      | none => exact absurd hks this
      | some ob => exact ⟨ob, rfl⟩
  have hT := hk ob hob
  cases ob with
  | none =>
    simp only [Tok] at hT
    subst hT
    obtain rfl : xs = [] := by
      rcases sl_inv hR with ⟨h, _⟩ | ⟨b, off, cap, vs, hv, _⟩
      · exact h
      · cases hv
    exact key [] none 0 rfl (by simp) (fun x hx => (by cases hx)) (run_firstCells_none w.drew i.size _ _ _) (fun j c hc => (by simp [flat] at hc)) (by simp)
  | some b =>
    simp only [Tok] at hT
    obtain ⟨cap, cur, el, rfl, hheap, hcur, hfree⟩ := hT
    obtain ⟨_, hcap, hmax, hxs, vs, hM, hRv⟩ := sl_some hR
    have hs999 : s ≠ 999999 := by rintro rfl; rw [h2.2.2.2] at hob; cases hob
    have hfl := flat_length xs hxs
    have hcell : ∀ j c, (flat xs)[j]? = some c → cur[j]? = some (vs j) ∧ (vs j).oneCell' = true := fun j c hj => by
      have := h1.mem b (0 + j) _ (hM j c hj)
      refine ⟨?_, this.2⟩
      have h' := this.1
      simpa [World.cell?, hheap] using h'
    have hfitx : xs.length * sz ≤ cur.size := by rw [hcur]; exact Nat.mul_le_mul_right _ hcap
    by_cases hroom : xs.length + 1 ≤ cap
    · have hfit0 : xs.length * i.size + news0.length ≤ cur.size := by rw [his, n0l, hcur, ← Nat.succ_mul]; exact Nat.mul_le_mul_right _ hroom
      have hrun := run_append_row (P := P) (w := w) t tx ty e i hut hi b xs.length cap y 1 news0 (by rw [his]; exact hsrc) hheap hroom hfit0
      refine ⟨_, _, _, hrun, fun news hul huo huR => ?_⟩
      rw [his] at hfit0 ⊢
      have hfit : xs.length * sz + news.length ≤ cur.size := by omega
      have hnews : ∀ (j : Nat) c, (flat [yv])[j]? = some c → ∃ v, news[j]? = some v ∧ R g.M c v ∧ v.oneCell' = true := fun j c hc => by
        rw [hfy] at hc
        have hjy := (List.getElem?_eq_some_iff.1 hc).1
        have hjn : j < news.length := by omega
        exact ⟨news[j], List.getElem?_eq_getElem hjn, huR _ c _ hc (List.getElem?_eq_getElem hjn), huo _ (List.getElem_mem hjn)⟩
      have hnl : news.length = 1 * sz := by omega
      have hrow0 := setRow_heap w b cur (cur.toList.take (xs.length * sz) ++ news0 ++ cur.toList.drop (xs.length * sz + news0.length)).toArray el (0, 0) hheap
      have hst := run_storeCells_at P b (xs.length * sz) el news 0 _ _ hrow0 (by simp; omega) huo
      simp only [Nat.add_zero] at hst
      have hrowY : ((cur.toList.take (xs.length * sz) ++ news0 ++ cur.toList.drop (xs.length * sz + news0.length)).toArray.toList.take (xs.length * sz) ++ news ++ (cur.toList.take (xs.length * sz) ++ news0 ++ cur.toList.drop (xs.length * sz + news0.length)).toArray.toList.drop (xs.length * sz + news.length)) =
          cur.toList.take (xs.length * sz) ++ news ++ cur.toList.drop (xs.length * sz + news.length) := by
        have hl0 : (cur.toList.take (xs.length * sz)).length = xs.length * sz := by rw [List.length_take]; simp; omega
        have e2 : news.length = news0.length := by omega
        have h9 := list_row (cur.toList.take (xs.length * sz)) news0 (cur.toList.drop (xs.length * sz + news0.length)) news e2
        rw [hl0] at h9
        rw [e2] at h9 ⊢
        exact h9
      rw [setRow_setRow, hrowY] at hst
      refine ⟨_, ⟨_, _, hrow0, by simp; omega⟩, hst, ?_⟩
      have hlo : ∀ o, xs.length * sz ≤ o → g.M b o = none := hfree
      have hsize : (cur.toList.take (xs.length * sz) ++ news ++ cur.toList.drop (xs.length * sz + news.length)).length = cur.size := by simp; omega
      have hmid : ∀ o, xs.length * sz ≤ o → o < xs.length * sz + news.length → (cur.toList.take (xs.length * sz) ++ news ++ cur.toList.drop (xs.length * sz + news.length)).toArray[o]? = news[o - xs.length * sz]? := fun o l1 l2 => by
        rw [List.getElem?_toArray, List.append_assoc, List.getElem?_append_right (by simp; omega), List.getElem?_append_left (by simp; omega)]
        congr 1; simp; omega
      have hlow : ∀ o, o < xs.length * sz → (cur.toList.take (xs.length * sz) ++ news ++ cur.toList.drop (xs.length * sz + news.length)).toArray[o]? = cur[o]? := fun o l1 => by
        rw [List.getElem?_toArray, List.append_assoc, List.getElem?_append_left (by simp; omega), List.getElem?_take, if_pos l1]; simp
      have hone : ∀ (o : Nat) v, news[o]? = some v → v.oneCell' = true := fun o v hv => huo v (List.mem_of_getElem? hv)
      have hML : MLe g.M (g.push s d b (xs.length * sz) (xs.length * sz + news.length) (cur.toList.take (xs.length * sz) ++ news ++ cur.toList.drop (xs.length * sz + news.length)).toArray).M := memAdd_le hlo
      have hW := h1.push (d := d) (hi := xs.length * sz + news.length) hob hlo hheap hlow (fun o v l1 l2 hv => by rw [hmid o l1 l2] at hv; exact hone _ v hv)
      have hkd : (g.push s d b (xs.length * sz) (xs.length * sz + news.length) (cur.toList.take (xs.length * sz) ++ news ++ cur.toList.drop (xs.length * sz + news.length)).toArray).κ d = some (some b) := by simp [GS.push]
      refine ⟨g.push s d b (xs.length * sz) (xs.length * sz + news.length) (cur.toList.take (xs.length * sz) ++ news ++ cur.toList.drop (xs.length * sz + news.length)).toArray, ?_, ?_, h3.push hob hlo (by omega)⟩
      · refine { hW with live := fun t ht => ?_ }
        simp only [List.mem_cons] at ht
        rcases ht with rfl | ht
        · rw [hkd]; simp
        · exact hW.live t ht
      · refine Tmps.cons (σ := σ) (ts := killT d σ.t) ?_ hd ?_
        · refine ⟨h2.1, h2.2.1, fun t y hy => ?_, by simp only [GS.push]; rw [if_neg (by omega), if_neg (fun e => hs999 e.symm)]; exact h2.2.2.2⟩
          simp only [get_killT] at hy
          cases hg : get t σ.t with
          | none => simp [hg] at hy
          | some zz =>
            simp only [hg, Option.map_some, Option.some.injEq] at hy
            subst hy
            exact ⟨(h2.2.2.1 t zz hg).1, (h2.2.2.1 t zz hg).2.push h1 hob hlo⟩
        · refine .ap sz (xs ++ [yv]) d _ (.sl b 0 sz (xs ++ [yv]) _ cap (fun j => if j < xs.length * sz then vs j else (news[j - xs.length * sz]?).getD Go.undef) (by simp) (by omega) hmax (fun q hq => ?_) (fun j c hj => ?_) (fun j c hj => ?_)) fun ob' hob' => ?_
          · rcases List.mem_append.1 hq with hq | hq
            · exact hxs q hq
            · simp only [List.mem_singleton] at hq; rw [hq]; exact hyc
          · rw [flat_append, List.getElem?_append] at hj
            split at hj
            · rename_i hjl
              rw [if_pos (by omega)]
              exact hML _ _ _ (hM j c hj)
            · rename_i hjl
              obtain ⟨v, q1, q2, q3⟩ := hnews _ c hj
              have hjn : j - (flat xs).length < news.length := (List.getElem?_eq_some_iff.1 q1).1
              rw [if_neg (by omega)]
              simp only [GS.push, memAdd, Nat.zero_add, true_and]
              rw [if_pos (by omega), hmid j (by omega) (by omega), ← hfl, q1]; rfl
          · rw [flat_append, List.getElem?_append] at hj
            split at hj
            · rename_i hjl
              rw [if_pos (by omega)]
              exact (hRv j c hj).mono hML
            · rename_i hjl
              obtain ⟨v, q1, q2, q3⟩ := hnews _ c hj
              have ej : j - xs.length * sz = j - (flat xs).length := by rw [hfl]
              rw [if_neg (by omega), ej, q1]
              exact q2.mono hML
          · rw [hkd] at hob'; cases hob'
            refine ⟨cap, _, el, by simp, setRow_heap w b cur _ el (0, 0) hheap, by rw [List.size_toArray, hsize, hcur], fun o ho => ?_⟩
            simp only [GS.push, memAdd, true_and]
            rw [List.length_append, Nat.add_mul] at ho
            simp only [List.length_cons, List.length_nil, Nat.zero_add, Nat.one_mul] at ho
            rw [if_neg (by omega)]
            exact hlo o (by omega)
    · refine key ((cur.toList.take (xs.length * sz))) (some ⟨b, 0, none⟩) cap rfl (by simp; omega) hxs ?_ (fun j c hc => ?_) (by omega)
      · refine run_firstCells_some (P := P) w.drew i.size xs.length ⟨b, 0, none⟩ _ _ _ (by simp [his]; omega) (fun j v hj => ?_)
        rw [List.getElem?_take] at hj
        split at hj
        · rw [add_none, Nat.zero_add]
          rw [World.cell?_drew]
          simp only [World.cell?, hheap]
          simpa using hj
        · cases hj
      · have hlt : j < xs.length * sz := by rw [← hfl]; exact (List.getElem?_eq_some_iff.1 hc).1
        obtain ⟨q1, q2⟩ := hcell j c hc
        exact ⟨vs j, by rw [List.getElem?_take, if_pos hlt]; simpa using q1, hRv j c hc, q2⟩
end
end Go.Proofs.YtenigafbbdjagaaDoor.AL

/- The tail of a region: an element appended and then written. -/
namespace Go.Proofs.YtenigafbbdjagaaDoor.AL
open Go Go.RowKit
set_option linter.unusedVariables false
set_option linter.unusedSimpArgs false
section
variable {P : Program} {σ : AS} {ops : Array Oper} {K : AS → Prop} {o4 o5 o6 : Oper} {rest : List Oper} {d q i j s sz bytes : Nat}

theorem eval_put_eq {a : Act} {d : Nat} {v : Value} (hd : d < a.tmps.size) : (a.put (some d) v).eval (.tmp d) = v := by
  show (a.tmps.setIfInBounds d v).getD d Go.undef = v
  rw [getD_put _ _ _ _ hd, if_pos rfl]
theorem eval_put_ne {a : Act} {d t : Nat} {v : Value} (hd : d < a.tmps.size) (h : t ≠ d) : (a.put (some d) v).eval (.tmp t) = a.eval (.tmp t) := by
  show (a.tmps.setIfInBounds d v).getD t Go.undef = a.tmps.getD t Go.undef
  rw [getD_put _ _ _ _ hd, if_neg h]

theorem semT_push {t t2 te tx e e2 by2 : TypeId} {x y : Operand} {k : IntKind} {xs zs : List AV} {z yv : AV} (g4 : o4.guard = none) (g5 : o5.guard = none) (g6 : o6.guard = none)
    (h4 : o4.op = .call { callee := .builtin .append, args := #[x, y], argTypes := #[t, tx] }) (d4 : o4.dst = some d) (hd : d < σ.n) (hd' : d < 999999)
    (h5 : o5.op = .indexAddr t2 (.tmp d) (.tmp i)) (d5 : o5.dst = some q) (hq : q < σ.n) (hqd : (q == d) = false) (hid : (i == d) = false)
    (h6 : o6.op = .store te (.tmp q) (.tmp j)) (d6 : o6.dst = none) (hjd : (j == d) = false) (hjq : (j == q) = false)
    (hx : evT P t σ x = .ap sz xs s) (hs9 : s ≤ 999999) (hlv : s = 999999 ∨ memK s σ.k = true) (hy : srcA P σ tx sz y = some [z]) (hi : get i σ.t = some (.v (.int k (xs.length : Int)))) (hj : get j σ.t = some (.v yv)) (hyc : yv.cells.length = sz)
    (ht : aty P t = .slice e sz bytes) (ht2 : aty P t2 = .slice e2 sz by2) (hte : (aty P te).size = sz) (hz : zeroC P e = some zs) (hz0 : sz ≠ 0) (hzs : zs.length = sz)
    (hb : (xs.length + 1) * bytes ≤ 140737488355328) (hml : xs.length + 1 ≤ 9223372036854775807)
    (h : SemT P ops rest ⟨σ.n, (q, .undef) :: (d, .ap sz (xs ++ [yv]) d) :: killT d σ.t, killB d σ.b, d :: pushK d s σ.k⟩ K) : SemT P ops (o4 :: o5 :: o6 :: rest) σ K := by
  intro ro n E a w Q' hr hK
  simp only [beq_eq_false_iff_ne] at hqd hid hjd hjq
  have hr' := hr
  obtain ⟨g, h1, h2, h3⟩ := hr
  have wn : ∀ (o : Oper) ys, o.guard = none → Region.wanted o ys = true := fun o ys hg => by simp [Region.wanted, hg]
  have hu := evT_rt (P := P) (t := t) h2 x
  rw [hx] at hu
  have hsz : d < a.tmps.size := by have := h2.2.1; omega
  obtain ⟨_, hRi⟩ := h2.2.2.1 i _ hi
  obtain ⟨_, hRj⟩ := h2.2.2.1 j _ hj
  have vi : a.eval (.tmp i) = .int k (xs.length : Int) := int_inv (v_inv hRi)
  have rj : R g.M yv (a.eval (.tmp j)) := v_inv hRj
  obtain ⟨c1, c2⟩ := cells_of rj
  have hsrc : ∃ news0, Src P sz tx (a.eval y) 1 news0 w := by
    unfold srcA at hy
    split at hy
    · rename_i e' q1 q2 sz2 ys2 hty2 hd2
      cases hb' : sz == sz2
      · simp [hb'] at hy
      · simp only [hb', cond_true, Option.some.injEq] at hy
        simp only [beq_iff_eq] at hb'
        subst hy; subst hb'
        obtain ⟨_, news, hS, _⟩ := src_sl h1.mem (aty_slice hty2).1 ((evT_rt (P := P) (t := tx) h2 y).dat hd2)
        exact ⟨news, hS⟩
    · rename_i l hty2 hd2
      cases hb' : sz == 1
      · simp [hb'] at hy
      · simp only [hb', cond_true, Option.some.injEq] at hy
        simp only [beq_iff_eq] at hb'
        have hl : (byteAs l).length = 1 := by rw [hy]; rfl
        have hl' : l.length = 1 := by simpa [byteAs] using hl
        subst hb'
        have := str_inv ((evT_rt (P := P) (t := tx) h2 y).dat hd2)
        rw [this]
        obtain ⟨_, news, hS, _⟩ := src_str (P := P) (w := w) (M := g.M) (aty_str hty2) l
        rw [hy] at hS
        exact ⟨news, hS⟩
    · cases hy
  obtain ⟨news0, hS⟩ := hsrc
  obtain ⟨b, cap, w4, hrun4, hst⟩ := push_ok (P := P) (E := E) (σ := σ) (a := a) (ty := o4.type) (yv := yv) h1 h2 h3 hd hd' ht hz hz0 hzs (hlv.imp id memK_mem) hs9 hb hml hu hyc hS
  obtain ⟨w6, _, hst6, hrel6⟩ := hst (a.eval (.tmp j)).cells.toList (by rw [← hyc, c1]; simp) (fun v hv => by
    obtain ⟨m, hm, rfl⟩ := List.getElem_of_mem hv
    have hm' : m < yv.cells.length := by rw [c1]; simpa using hm
    exact (c2 m _ _ (List.getElem?_eq_getElem hm') (by simp at hm; simp [hm])).2) (fun m c v hc hv => (c2 m c v hc (by simpa using hv)).1)
  obtain ⟨hu2, hse2, _⟩ := aty_slice ht2
  -- the append
  rw [semS, if_pos (wn o4 _ g4)]
  refine ⟨fenceW o4 w _, ?_⟩
  rw [show o4.semAt (Fw ro).round a.eval = execOp a.eval o4 from Oper.semAt_eq _ _ _ (by simp [h4])]
  have hx4 : (execOp a.eval o4).run P w = .ok (.value (.slice (some ⟨b, 0, none⟩) (xs.length + 1) cap)) w4 := by
    simp only [execOp, h4, Sem.run_bind, resolve, Sem.run_pure, Result.andThen_ok, invoke, builtin]
    simp [hrun4]
  rw [hx4]
  show semS P ro n ops Q' (o5 :: o6 :: rest) (a.put o4.dst (.slice (some ⟨b, 0, none⟩) (xs.length + 1) cap)) w4
  rw [d4]
  -- the element
  rw [semS, if_pos (wn o5 _ g5)]
  refine ⟨fenceW o5 w4 _, ?_⟩
  rw [show o5.semAt (Fw ro).round _ = execOp _ o5 from Oper.semAt_eq _ _ _ (by simp [h5])]
  have hx5 : (execOp (a.put (some d) (.slice (some ⟨b, 0, none⟩) (xs.length + 1) cap)).eval o5).run P w4 = .ok (.value (.pointer (some ⟨b, xs.length * sz, none⟩))) w4 := by
    simp only [execOp, h5]
    refine runV ?_
    rw [eval_put_eq hsz, eval_put_ne hsz hid, vi]
    simp only [Instr.indexAt, asIntOf, Sem.run_bind, Sem.run_pure, Result.andThen_ok, run_underlying hu2]
    have hbd : 0 ≤ (xs.length : Int) ∧ (xs.length : Int) < ((xs.length + 1 : Nat) : Int) := ⟨by omega, by omega⟩
    simp [hbd, run_sizeOf hse2 hz0, add_none]
    omega
  rw [hx5]
  show semS P ro n ops Q' (o6 :: rest) ((a.put (some d) (.slice (some ⟨b, 0, none⟩) (xs.length + 1) cap)).put o5.dst (.pointer (some ⟨b, xs.length * sz, none⟩))) w4
  rw [d5]
  -- it is written
  rw [semS, if_pos (wn o6 _ g6)]
  refine ⟨fenceW o6 w4 _, ?_⟩
  rw [show o6.semAt (Fw ro).round _ = execOp _ o6 from Oper.semAt_eq _ _ _ (by simp [h6])]
  have hsz2 : q < (a.put (some d) (.slice (some ⟨b, 0, none⟩) (xs.length + 1) cap)).tmps.size := by
    have := h2.2.1; simp [Act.put]; omega
  have hx6 : (execOp ((a.put (some d) (.slice (some ⟨b, 0, none⟩) (xs.length + 1) cap)).put (some q) (.pointer (some ⟨b, xs.length * sz, none⟩))).eval o6).run P w4 = .ok .skip w6 := by
    simp only [execOp, h6]
    rw [eval_put_eq hsz2, eval_put_ne hsz2 hjq, eval_put_ne hsz hjd]
    have := run_storeAt (P := P) (w := w4) (w' := w6) (t := te) (b := b) (off := xs.length * sz) (u := a.eval (.tmp j)) (by rw [hte, ← hyc, c1]) (by rw [← c1, hyc]; exact hz0) hst6
    simp [this]
  rw [hx6]
  show semS P ro n ops Q' rest (((a.put (some d) (.slice (some ⟨b, 0, none⟩) (xs.length + 1) cap)).put (some q) (.pointer (some ⟨b, xs.length * sz, none⟩))).put o6.dst Go.undef) w6
  rw [d6]
  refine h ro n E _ w6 Q' ?_ hK
  exact hrel6.put hq fun _ _ _ => .undef _
end
end Go.Proofs.YtenigafbbdjagaaDoor.AL

/- The tail of a region: an element appended, put into the variable, and then written. -/
namespace Go.Proofs.YtenigafbbdjagaaDoor.AL
open Go Go.RowKit
set_option linter.unusedVariables false
set_option linter.unusedSimpArgs false
theorem setRow_comm {w : World} {b b7 : Nat} {x y : Array Value} (h : b ≠ b7) : (w.setRow b7 y).setRow b x = (w.setRow b x).setRow b7 y := by
  unfold World.setRow
  congr 1
  apply Array.ext
  · simp
  · intro i h1 h2
    simp only [Array.getElem_modify]
    by_cases e1 : b = i
    · have e2 : b7 ≠ i := fun e => h (e1.trans e.symm)
      simp [e1, e2]
    · simp [e1]
section
variable {P : Program} {σ : AS} {ops : Array Oper} {K : AS → Prop} {o4 o5 o6 : Oper} {rest : List Oper} {d q i j s sz bytes : Nat}
/-- The same where the slice is put into its variable ahead of the write. -/
theorem push7_core {t t2 te tx e e2 by2 : TypeId} {x y : Operand} {k : IntKind} {xs zs : List AV} {z yv : AV} {o7 : Oper} {t7 : TypeId} {p s7 : Nat} {c7 : TV} (g7 : o7.guard = none) (h7 : o7.op = .store t7 (.tmp p) (.tmp d)) (d7 : o7.dst = none) (hp : get p σ.t = some (.loc s7 0)) (hpd : (p == d) = false) (hs7d : (s7 == d) = false) (hbx : get s7 (killB d σ.b) = some [c7]) (ht7 : (aty P t7).size = 1) (g4 : o4.guard = none) (g5 : o5.guard = none) (g6 : o6.guard = none)
    (h4 : o4.op = .call { callee := .builtin .append, args := #[x, y], argTypes := #[t, tx] }) (d4 : o4.dst = some d) (hd : d < σ.n) (hd' : d < 999999)
    (h5 : o5.op = .indexAddr t2 (.tmp d) (.tmp i)) (d5 : o5.dst = some q) (hq : q < σ.n) (hqd : (q == d) = false) (hid : (i == d) = false)
    (h6 : o6.op = .store te (.tmp q) (.tmp j)) (d6 : o6.dst = none) (hjd : (j == d) = false) (hjq : (j == q) = false)
    (hx : evT P t σ x = .ap sz xs s) (hs9 : s ≤ 999999) (hlv : s = 999999 ∨ memK s σ.k = true) (hy : srcA P σ tx sz y = some [z]) (hi : get i σ.t = some (.v (.int k (xs.length : Int)))) (hj : get j σ.t = some (.v yv)) (hyc : yv.cells.length = sz)
    (ht : aty P t = .slice e sz bytes) (ht2 : aty P t2 = .slice e2 sz by2) (hte : (aty P te).size = sz) (hz : zeroC P e = some zs) (hz0 : sz ≠ 0) (hzs : zs.length = sz)
    (hb : (xs.length + 1) * bytes ≤ 140737488355328) (hml : xs.length + 1 ≤ 9223372036854775807) (hpq : (p == q) = false) {ro : Option Nat} {E : E0} {a : Act} {w : World} (hr : Rel E σ a w) :
    ∃ a4 a5 w4 w5 w6 w7, (∃ S, (execOp a.eval o4).run P w = .ok (.value S) w4 ∧ a4 = a.put (some d) S) ∧ (∃ T, a5 = a4.put (some q) T ∧ ∀ v, (execOp a4.eval o5).run P v = .ok (.value T) v) ∧
      (execOp a4.eval o7).run P w4 = .ok .skip w5 ∧ (execOp a5.eval o7).run P w4 = .ok .skip w5 ∧ (execOp a5.eval o6).run P w4 = .ok .skip w6 ∧ (execOp a5.eval o6).run P w5 = .ok .skip w7 ∧ (execOp a5.eval o7).run P w6 = .ok .skip w7 ∧
      Rel E ⟨σ.n, (q, .undef) :: (d, .ap sz (xs ++ [yv]) d) :: killT d σ.t, setB s7 [.ap sz (xs ++ [yv]) d] (killB d σ.b), d :: pushK d s σ.k⟩ a5 w7 := by
  simp only [beq_eq_false_iff_ne] at hqd hid hjd hjq hpq
  have hr' := hr
  obtain ⟨g, h1, h2, h3⟩ := hr
  have hu := evT_rt (P := P) (t := t) h2 x
  rw [hx] at hu
  have hsz : d < a.tmps.size := by have := h2.2.1; omega
  obtain ⟨_, hRi⟩ := h2.2.2.1 i _ hi
  obtain ⟨_, hRj⟩ := h2.2.2.1 j _ hj
  have vi : a.eval (.tmp i) = .int k (xs.length : Int) := int_inv (v_inv hRi)
  have rj : R g.M yv (a.eval (.tmp j)) := v_inv hRj
  obtain ⟨c1, c2⟩ := cells_of rj
  have hsrc : ∃ news0, Src P sz tx (a.eval y) 1 news0 w := by
    unfold srcA at hy
    split at hy
    · rename_i e' q1 q2 sz2 ys2 hty2 hd2
      cases hb' : sz == sz2
      · simp [hb'] at hy
      · simp only [hb', cond_true, Option.some.injEq] at hy
        simp only [beq_iff_eq] at hb'
        subst hy; subst hb'
        obtain ⟨_, news, hS, _⟩ := src_sl h1.mem (aty_slice hty2).1 ((evT_rt (P := P) (t := tx) h2 y).dat hd2)
        exact ⟨news, hS⟩
    · rename_i l hty2 hd2
      cases hb' : sz == 1
      · simp [hb'] at hy
      · simp only [hb', cond_true, Option.some.injEq] at hy
        simp only [beq_iff_eq] at hb'
        have hl : (byteAs l).length = 1 := by rw [hy]; rfl
        have hl' : l.length = 1 := by simpa [byteAs] using hl
        subst hb'
        have := str_inv ((evT_rt (P := P) (t := tx) h2 y).dat hd2)
        rw [this]
        obtain ⟨_, news, hS, _⟩ := src_str (P := P) (w := w) (M := g.M) (aty_str hty2) l
        rw [hy] at hS
        exact ⟨news, hS⟩
    · cases hy
  obtain ⟨news0, hS⟩ := hsrc
  obtain ⟨b, cap, w4, hrun4, hst⟩ := push_ok (P := P) (E := E) (σ := σ) (a := a) (ty := o4.type) (yv := yv) h1 h2 h3 hd hd' ht hz hz0 hzs (hlv.imp id memK_mem) hs9 hb hml hu hyc hS
  simp only [beq_eq_false_iff_ne] at hpd hs7d
  have hul : (a.eval (.tmp j)).cells.toList.length = sz := by rw [← hyc, c1]; simp
  have huo : ∀ v ∈ (a.eval (.tmp j)).cells.toList, v.oneCell' = true := fun v hv => by
    obtain ⟨m, hm, rfl⟩ := List.getElem_of_mem hv
    have hm' : m < yv.cells.length := by rw [c1]; simpa using hm
    exact (c2 m _ _ (List.getElem?_eq_getElem hm') (by simp at hm; simp [hm])).2
  obtain ⟨w6, ⟨cur, el, hrow4, hfit⟩, hst6, hrel6⟩ := hst (a.eval (.tmp j)).cells.toList hul huo (fun m c v hc hv => (c2 m c v hc (by simpa using hv)).1)
  have e6 := run_storeCells_at P b (xs.length * sz) el (a.eval (.tmp j)).cells.toList 0 cur w4 hrow4 (by simpa using hfit) huo
  rw [hst6] at e6
  simp only [Result.ok.injEq, true_and, Nat.add_zero] at e6
  obtain ⟨gg, r1, r2, r3⟩ := hrel6
  have hpk : get p ((d, TV.ap sz (xs ++ [yv]) d) :: killT d σ.t) = some (.loc s7 0) := by
    simp only [get, get_killT, hp, Option.map_some, TV.kill]
    rw [show (p == d) = false by simpa using hpd, show (s7 == d) = false by simpa using hs7d]; rfl
  have hdk : get d ((d, TV.ap sz (xs ++ [yv]) d) :: killT d σ.t) = some (.ap sz (xs ++ [yv]) d) := by simp [get]
  obtain ⟨_, hRp⟩ := r2.2.2.1 p _ hpk
  obtain ⟨_, hRd⟩ := r2.2.2.1 d _ hdk
  have ed : (a.put (some d) (.slice (some ⟨b, 0, none⟩) (xs.length + 1) cap)).tmps.getD d Go.undef = .slice (some ⟨b, 0, none⟩) (xs.length + 1) cap := eval_put_eq hsz
  rw [ed] at hRd
  obtain ⟨b7, w7, ep, hst7, hrel7⟩ := store_rel (P := P) (E := E) (u := .slice (some ⟨b, 0, none⟩) (xs.length + 1) cap) (nc := [.ap sz (xs ++ [yv]) d]) r1 r2 r3 hbx (by simp) rfl (fun m c v hc hv => by
    cases m with
    | zero =>
      simp only [List.getElem?_cons_zero, Option.some.injEq] at hc
      have hv' : v = .slice (some ⟨b, 0, none⟩) (xs.length + 1) cap := by simpa [Value.cells] using hv.symm
      subst hc; subst hv'
      exact ⟨hRd, rfl⟩
    | succ m => simp at hc) hRp
  obtain ⟨b7', vs7, e7, q1, q2, q3, _, _⟩ := r1.box s7 _ hbx
  obtain ⟨bb, ebb, hφ⟩ := loc_inv hRp
  rw [ep] at ebb
  simp only [Value.pointer.injEq, Option.some.injEq, Addr.mk.injEq, and_true] at ebb
  subst ebb
  rw [hφ] at q1
  simp only [Option.some.injEq] at q1
  subst q1
  have hbne : b ≠ b7 := fun e => by
    obtain ⟨_, hTk⟩ := ap_inv hRd
    cases hκ : gg.κ d with
    | none => exact r1.live d (by simp) hκ
    | some ob =>
      have := hTk ob hκ
      cases ob with
      | none => simp [Tok] at this
      | some b' =>
        obtain ⟨_, _, _, e1, _⟩ := this
        simp only [Value.slice.injEq, Option.some.injEq, Addr.mk.injEq, and_true] at e1
        obtain ⟨e1, _⟩ := e1
        subst e1; subst e
        exact r1.ap s7 d _ hφ hκ
  have hst7' := run_storeCells_at P b7 0 e7 [.slice (some ⟨b, 0, none⟩) (xs.length + 1) cap] 0 vs7 w6 q2 (by simp; simp at q3; omega) (by simp [Value.oneCell'])
  have hst7c : (storeCells ⟨b7, 0, none⟩ [.slice (some ⟨b, 0, none⟩) (xs.length + 1) cap]).run P w6 = .ok () w7 := by simpa [Value.cells] using hst7
  rw [hst7c] at hst7'
  simp only [Result.ok.injEq, true_and] at hst7'
  have hrow7 : w4.heap[b7]? = some (.cells vs7 e7 (0, 0)) := by
    rw [e6, setRow_other _ _ _ _ (Ne.symm hbne)] at q2; exact q2
  have hst5 := run_storeCells_at P b7 0 e7 [.slice (some ⟨b, 0, none⟩) (xs.length + 1) cap] 0 vs7 w4 hrow7 (by simp; simp at q3; omega) (by simp [Value.oneCell'])
  obtain ⟨w5, hw5⟩ : ∃ w5, w5 = w4.setRow b7 (vs7.toList.take (0 + 0) ++ [Value.slice (some ⟨b, 0, none⟩) (xs.length + 1) cap] ++ vs7.toList.drop (0 + 0 + [Value.slice (some ⟨b, 0, none⟩) (xs.length + 1) cap].length)).toArray := ⟨_, rfl⟩
  rw [← hw5] at hst5
  have hrow5 : w5.heap[b]? = some (.cells cur el (0, 0)) := by rw [hw5, setRow_other _ _ _ _ hbne]; exact hrow4
  have hst6' := run_storeCells_at P b (xs.length * sz) el (a.eval (.tmp j)).cells.toList 0 cur w5 hrow5 (by simpa using hfit) huo
  have e57 : w5.setRow b (cur.toList.take (xs.length * sz + 0) ++ (a.eval (.tmp j)).cells.toList ++ cur.toList.drop (xs.length * sz + 0 + (a.eval (.tmp j)).cells.toList.length)).toArray = w7 := by
    rw [hw5, hst7', e6, setRow_comm hbne]
    simp only [Nat.add_zero]
  rw [e57] at hst6'
  obtain ⟨hu2, hse2, _⟩ := aty_slice ht2
  have hx4 : (execOp a.eval o4).run P w = .ok (.value (.slice (some ⟨b, 0, none⟩) (xs.length + 1) cap)) w4 := by
    simp only [execOp, h4, Sem.run_bind, resolve, Sem.run_pure, Result.andThen_ok, invoke, builtin]
    simp [hrun4]
  have ep' : (a.put (some d) (.slice (some ⟨b, 0, none⟩) (xs.length + 1) cap)).eval (.tmp p) = .pointer (some ⟨b7, 0, none⟩) := ep
  have hsz2 : q < (a.put (some d) (.slice (some ⟨b, 0, none⟩) (xs.length + 1) cap)).tmps.size := by
    have := h2.2.1; simp [Act.put]; omega
  have go7 : ∀ (a' : Act) (u u' : World), a'.eval (.tmp p) = .pointer (some ⟨b7, 0, none⟩) → a'.eval (.tmp d) = .slice (some ⟨b, 0, none⟩) (xs.length + 1) cap →
      (storeCells ⟨b7, 0, none⟩ [.slice (some ⟨b, 0, none⟩) (xs.length + 1) cap]).run P u = .ok () u' → (execOp a'.eval o7).run P u = .ok .skip u' := fun a' u u' e1 e2 hs => by
    simp only [execOp, h7]
    rw [e1, e2]
    have := run_storeAt (P := P) (w := u) (w' := u') (t := t7) (b := b7) (off := 0) (u := .slice (some ⟨b, 0, none⟩) (xs.length + 1) cap) (by rw [ht7]; rfl) (by simp [Value.cells]) (by simpa [Value.cells] using hs)
    simp [this]
  have go6 : ∀ (u u' : World), (storeCells ⟨b, xs.length * sz, none⟩ (a.eval (.tmp j)).cells.toList).run P u = .ok () u' → (execOp ((a.put (some d) (.slice (some ⟨b, 0, none⟩) (xs.length + 1) cap)).put (some q) (.pointer (some ⟨b, xs.length * sz, none⟩))).eval o6).run P u = .ok .skip u' := fun u u' hs => by
    simp only [execOp, h6]
    rw [eval_put_eq hsz2, eval_put_ne hsz2 hjq, eval_put_ne hsz hjd]
    have := run_storeAt (P := P) (w := u) (w' := u') (t := te) (b := b) (off := xs.length * sz) (u := a.eval (.tmp j)) (by rw [hte, ← hyc, c1]) (by rw [← c1, hyc]; exact hz0) hs
    simp [this]
  have e4d : (a.put (some d) (.slice (some ⟨b, 0, none⟩) (xs.length + 1) cap)).eval (.tmp d) = .slice (some ⟨b, 0, none⟩) (xs.length + 1) cap := eval_put_eq hsz
  have e5p : ((a.put (some d) (.slice (some ⟨b, 0, none⟩) (xs.length + 1) cap)).put (some q) (.pointer (some ⟨b, xs.length * sz, none⟩))).eval (.tmp p) = .pointer (some ⟨b7, 0, none⟩) := by
    rw [eval_put_ne hsz2 hpq]; exact ep'
  have e5d : ((a.put (some d) (.slice (some ⟨b, 0, none⟩) (xs.length + 1) cap)).put (some q) (.pointer (some ⟨b, xs.length * sz, none⟩))).eval (.tmp d) = .slice (some ⟨b, 0, none⟩) (xs.length + 1) cap := by
    rw [eval_put_ne hsz2 (Ne.symm hqd)]; exact e4d
  refine ⟨_, _, w4, w5, w6, w7, ⟨_, hx4, rfl⟩, ⟨_, rfl, fun v => ?_⟩, go7 _ _ _ ep' e4d hst5, go7 _ _ _ e5p e5d hst5, go6 _ _ hst6, go6 _ _ hst6', go7 _ _ _ e5p e5d hst7c, hrel7.put hq fun _ _ _ => .undef _⟩
  simp only [execOp, h5]
  refine runV ?_
  rw [eval_put_eq hsz, eval_put_ne hsz hid, vi]
  simp only [Instr.indexAt, asIntOf, Sem.run_bind, Sem.run_pure, Result.andThen_ok, run_underlying hu2]
  have hbd : 0 ≤ (xs.length : Int) ∧ (xs.length : Int) < ((xs.length + 1 : Nat) : Int) := ⟨by omega, by omega⟩
  simp [hbd, run_sizeOf hse2 hz0, add_none]
  omega
end
end Go.Proofs.YtenigafbbdjagaaDoor.AL

/- Regions that leave their order open, and a tail that does so: what the machine does behind. -/
namespace Go.Proofs.YtenigafbbdjagaaDoor.AL
open Go Go.RowKit
set_option linter.unusedVariables false
set_option linter.unusedSimpArgs false
def rdyA (ops : Array Oper) (prev rem : List Nat) : List Nat := rem.filter fun j => match ops[j]? with | some o => o.after.toList.all fun e => !bnd e || prev.contains e.on | none => false
/-- What the machine does at operations in any order that binds. -/
def semA (P : Program) (ro : Option Nat) (n : Nat) (ops : Array Oper) (Q' : Exit → Act → World → Prop) : Nat → List Nat → List Nat → Act → World → Prop
  | _, _, [], a, w => Q' .normal a w
  | 0, _, _ :: _, _, _ => False
  | f + 1, prev, i0 :: rem, a, w => rdyA ops prev (i0 :: rem) ≠ [] ∧ ∀ j ∈ rdyA ops prev (i0 :: rem), ∀ o, ops[j]? = some o →
      if Region.wanted o (yielded ops a.tmps) = true then o.wpIn (Fw ro) n P a w (fun a w => semA P ro n ops Q' f (j :: prev) ((i0 :: rem).erase j) a w) Q' else semA P ro n ops Q' f (j :: prev) ((i0 :: rem).erase j) (a.put o.dst Go.undef) w
def SemA (P : Program) (ops : Array Oper) (prev rem : List Nat) (σ : AS) (K : AS → Prop) : Prop :=
  ∀ (ro : Option Nat) (n : Nat) (E : E0) (a : Act) (w : World) (Q' : Exit → Act → World → Prop), Rel E σ a w → (∀ s a w, K s → Rel E s a w → Q' .normal a w) → semA P ro n ops Q' rem.length prev rem a w
def nodupB : List Nat → Bool
  | [] => true
  | i :: l => !l.contains i && nodupB l
theorem nodupB_iff : ∀ {l : List Nat}, nodupB l = true → l.Nodup
  | [], _ => .nil
  | i :: l, h => by
    simp only [nodupB, Bool.and_eq_true, Bool.not_eq_true', List.contains_eq_mem, decide_eq_false_iff_not] at h
    exact List.nodup_cons.2 ⟨h.1, nodupB_iff h.2⟩
def okU (ops : Array Oper) (prev τ : List Nat) : Bool :=
  nodupB τ && τ.all fun j => match ops[j]? with | some o => prev.all fun k => dep o k | none => false
def okE (ops : Array Oper) (σ : AS) (τ : List Nat) (recs : RL) : Bool :=
  okR ops σ.k recs recs && okS σ recs && okU ops (recs.map (·.1)) τ && okC ops.size (recs.map (·.1) ++ τ)
theorem okU_nodup {ops : Array Oper} {prev τ : List Nat} (h : okU ops prev τ = true) : τ.Nodup := by
  simp only [okU, Bool.and_eq_true] at h
  exact nodupB_iff h.1
theorem okU_dep {ops : Array Oper} {prev τ : List Nat} (h : okU ops prev τ = true) (j : Nat) (hj : j ∈ τ) : ∃ o, ops[j]? = some o ∧ ∀ k ∈ prev, dep o k = true := by
  simp only [okU, Bool.and_eq_true, List.all_eq_true] at h
  have := h.2 j hj
  cases ho : ops[j]? with
  | none => simp [ho] at this
  | some o => rw [ho] at this; exact ⟨o, rfl, fun k hk => by simpa using List.all_eq_true.1 this k hk⟩
section
variable {P : Program} {ro : Option Nat} {n : Nat} {E : E0} {σ : AS} {ops : Array Oper} {all recs : RL} {listed : Array Bool} {k0 : List Nat} {K : AS → Prop}
theorem mem_rdyA {prev rem : List Nat} {j : Nat} : j ∈ rdyA ops prev rem ↔ j ∈ rem ∧ ∃ o, ops[j]? = some o ∧ ∀ k, dep o k = true → k ∈ prev := by
  simp only [rdyA, List.mem_filter]
  refine and_congr_right fun _ => ?_
  cases ho : ops[j]? with
  | none => simp
  | some o =>
    simp only [List.all_eq_true, Bool.or_eq_true, Bool.not_eq_true', List.contains_eq_mem, decide_eq_true_eq, Option.some.injEq, exists_eq_left', dep, List.any_eq_true, Bool.and_eq_true, beq_iff_eq]
    constructor
    · rintro h k ⟨e, he, hb, rfl⟩
      exact (h e he).resolve_left (by simp [hb])
    · intro h e he
      cases hb : bnd e with
      | false => exact .inl rfl
      | true => exact .inr (h e.on ⟨e, he, hb, rfl⟩)
theorem phase2A {Q' : Exit → Act → World → Prop} : ∀ (fuel f : Nat) (τ prev : List Nat) (listed : Array Bool) (a : Act) (w : World), τ.Nodup → listed.size = ops.size →
    (∀ i, i < ops.size → i ∈ prev ∨ i ∈ τ) → (∀ i ∈ prev, Lst listed i) → (∀ j ∈ τ, ¬ Lst listed j) → left listed.size listed ≤ fuel → semA P ro n ops Q' f prev τ a w → wpAnyIn (Fw ro) n P .any ops Q' fuel listed a w := by
  intro fuel
  have done : ∀ (fuel : Nat) (prev : List Nat) (listed : Array Bool) (a : Act) (w : World), listed.size = ops.size → (∀ i, i < ops.size → i ∈ prev ∨ i ∈ ([] : List Nat)) → (∀ i ∈ prev, Lst listed i) → Q' .normal a w → wpAnyIn (Fw ro) n P .any ops Q' fuel listed a w := by
    intro fuel prev listed a w hs hcov hp hk
    refine wpAnyIn_done ?_ hk fuel
    refine List.eq_nil_iff_forall_not_mem.2 fun i hi => ?_
    obtain ⟨h1, o, ho, _⟩ := (ready_iff hs).1 hi
    have hlt : i < ops.size := (Array.getElem?_eq_some_iff.1 ho).1
    exact h1 (hp i ((hcov i hlt).resolve_right (by simp)))
  induction fuel with
  | zero =>
    intro f τ prev listed a w hT hs hcov hp hτ hl hq
    cases τ with
    | nil => exact done _ prev listed a w hs hcov hp (by cases f <;> exact hq)
    | cons j τ =>
      cases f with
      | zero => exact hq.elim
      | succ f =>
        obtain ⟨hne, _⟩ := hq
        obtain ⟨i, hi⟩ := List.exists_mem_of_ne_nil _ hne
        obtain ⟨him, o, ho, _⟩ := mem_rdyA.1 hi
        exact absurd (left_zero (Nat.le_zero.1 hl) (i := i) (by rw [hs]; exact (Array.getElem?_eq_some_iff.1 ho).1)) (hτ i him)
  | succ fuel ih =>
    intro f τ prev listed a w hT hs hcov hp hτ hl hq
    cases τ with
    | nil => exact done _ prev listed a w hs hcov hp (by cases f <;> exact hq)
    | cons i0 τ =>
      cases f with
      | zero => exact hq.elim
      | succ f =>
        obtain ⟨hne, hall⟩ := hq
        refine ⟨fun h0 => ?_, fun i hi => ?_⟩
        · obtain ⟨i, hi⟩ := List.exists_mem_of_ne_nil _ hne
          obtain ⟨him, o, ho, hd⟩ := mem_rdyA.1 hi
          have : i ∈ Region.ready .any ops listed := (ready_iff hs).2 ⟨hτ i him, o, ho, fun k hk => hp k (hd k hk)⟩
          rw [h0] at this; cases this
        · obtain ⟨h1, o, ho, hdep⟩ := (ready_iff hs).1 hi
          have hlt : i < ops.size := (Array.getElem?_eq_some_iff.1 ho).1
          have hjlt : i < listed.size := by rw [hs]; exact hlt
          have him : i ∈ i0 :: τ := (hcov i hlt).resolve_left fun h => h1 (hp i h)
          have hir : i ∈ rdyA ops prev (i0 :: τ) := mem_rdyA.2 ⟨him, o, ho, fun k hk => by
            have hkl := hdep k hk
            have hklt : k < ops.size := by rw [← hs]; exact lst_lt hkl
            exact (hcov k hklt).resolve_right fun h => hτ k h hkl⟩
          have hq := hall i hir o ho
          have next : ∀ a' w', semA P ro n ops Q' f (i :: prev) ((i0 :: τ).erase i) a' w' → wpAnyIn (Fw ro) n P .any ops Q' fuel (listed.setIfInBounds i true) a' w' := fun a' w' hq' => by
            refine ih f _ (i :: prev) _ a' w' (hT.erase i) (by simpa using hs) (fun k hk => ?_) (fun k hk => ?_) (fun k hk hkl => ?_) ?_ hq'
            · rcases hcov k hk with h | h
              · exact .inl (by simp [h])
              · by_cases e : k = i
                · exact .inl (by simp [e])
                · exact .inr ((List.mem_erase_of_ne e).2 h)
            · rcases List.mem_cons.1 hk with rfl | hk
              · exact (lst_set hjlt).2 (.inl rfl)
              · exact (lst_set hjlt).2 (.inr (hp k hk))
            · rcases (lst_set hjlt).1 hkl with rfl | h
              · exact (hT.not_mem_erase) hk
              · exact hτ k (List.mem_of_mem_erase hk) h
            · have := left_set hjlt h1
              simp only [Array.size_setIfInBounds]
              omega
          unfold wpOpIn
          simp only [ho]
          by_cases hw : Region.wanted o (yielded ops a.tmps) = true
          · rw [if_pos hw] at hq ⊢
            exact Oper.wpIn_mono next hq
          · rw [if_neg hw] at hq
            rw [if_neg hw]
            exact ⟨fenceW o w _, next _ _ hq⟩

theorem phase1A {K : AS → Prop} {τ : List Nat} {Q' : Exit → Act → World → Prop} (hK : ∀ s a w, K s → Rel E s a w → Q' .normal a w) (hg : GoodR P ops.toList σ recs) (hd : okE ops σ τ recs = true) (hq : SemA P ops (recs.map (·.1)) τ (fullS recs σ) K) :
    ∀ (fuel : Nat) (listed : Array Bool) (a : Act) (w : World), listed.size = ops.size → left listed.size listed ≤ fuel → (∀ p ∈ recs, Lst listed p.1 → ∀ o, ops[p.1]? = some o → ∀ k, dep o k = true → Lst listed k) →
      (∀ j ∈ τ, ¬ Lst listed j) → Rel E (fullS (lf recs listed) σ) a w → wpAnyIn (Fw ro) n P .any ops Q' fuel listed a w := by
  simp only [okE, Bool.and_eq_true] at hd
  obtain ⟨⟨⟨hR, hS⟩, hT⟩, hC⟩ := hd
  obtain ⟨u1, u2, u3⟩ := okR_ud hR
  have hat := good_at hg hR
  have hcov : ∀ i, i < ops.size → i ∈ recs.map (·.1) ∨ i ∈ τ := fun i hi => by
    simp only [okC, List.all_eq_true, List.mem_range, List.contains_eq_mem, decide_eq_true_eq, List.mem_append] at hC
    exact hC i hi
  have hSp : ∀ p ∈ recs, isMk p.2 = true → hasnT p.2.d σ.t = true ∧ hasnB p.2.d σ.b = true ∧ keyn p.2.d σ.b = true ∧ memK p.2.d σ.k = false ∧ ∀ q ∈ recs, ∀ c, q.2.bx = some c → hasnL p.2.d c = true := fun p hp hm => by
    simp only [okS, List.all_eq_true, Bool.or_eq_true, Bool.not_eq_true', Bool.and_eq_true] at hS
    obtain ⟨h1, h2, h3, h4, h5⟩ := (hS p hp).resolve_left (by simp [hm])
    exact ⟨h1, h2, h3, h4, fun q hq c hc => by have := h5 q hq; rw [hc] at this; exact this⟩
  intro fuel
  have full : ∀ (fuel : Nat) (listed : Array Bool) (a : Act) (w : World), listed.size = ops.size → left listed.size listed ≤ fuel → (∀ j ∈ τ, ¬ Lst listed j) → (∀ p ∈ recs, Lst listed p.1) → Rel E (fullS (lf recs listed) σ) a w → wpAnyIn (Fw ro) n P .any ops Q' fuel listed a w := by
    intro fuel listed a w hs hl hτ hall hr
    have e : lf recs listed = recs := List.filter_eq_self.2 fun p hp => hall p hp
    rw [e] at hr
    exact phase2A fuel τ.length τ (recs.map (·.1)) listed a w (okU_nodup hT) hs hcov (fun i hi => by obtain ⟨p, hp, rfl⟩ := List.mem_map.1 hi; exact hall p hp) hτ hl (hq ro n E a w Q' hr hK)
  induction fuel with
  | zero =>
    intro listed a w hs hl hdc hτ hr
    refine full 0 listed a w hs hl hτ (fun p hp => ?_) hr
    obtain ⟨suf, o, _, _, h1, _⟩ := hat p hp
    exact left_zero (Nat.le_zero.1 hl) (by rw [hs]; exact (Array.getElem?_eq_some_iff.1 h1.at_).1)
  | succ fuel ih =>
    intro listed a w hs hl hdc hτ hr
    by_cases hall : ∀ p ∈ recs, Lst listed p.1
    · exact full _ listed a w hs hl hτ hall hr
    refine ⟨fun h0 => absurd (all_listed hs h0 hR) hall, fun i hi => ?_⟩
    obtain ⟨hin, o, ho, hdep⟩ := (ready_iff hs).1 hi
    have hlt : i < ops.size := (Array.getElem?_eq_some_iff.1 ho).1
    have hlt' : i < listed.size := by rw [hs]; exact hlt
    rcases hcov i hlt with h | h
    · obtain ⟨⟨i', r⟩, hp, e⟩ := List.mem_map.1 h
      simp only at e
      subst e
      obtain ⟨suf, o', hsuf, hokS, h1, hok, hus⟩ := hat _ hp
      have e : o' = o := by have := h1.at_; simp only at this; rw [ho] at this; exact (Option.some.inj this).symm
      subst e
      have huL : UD (lf recs listed) := fun p hp q hq => u1 p (mem_lf.1 hp).1 q (mem_lf.1 hq).1
      have hnL : (i', r) ∉ lf recs listed := fun h => hin (mem_lf.1 h).2
      have hdep' : ∀ p ∈ suf, dep o' p.1 = true → p ∈ lf recs listed := fun p hp hd => mem_lf.2 ⟨hsuf p hp, hdep _ hd⟩
      refine drawOp_step (L := lf recs listed) (L' := lf recs (listed.setIfInBounds i' true)) h1.at_ hok (fun t ht => ?_) (fun p => ?_) (fun p hp q hq => u1 p (mem_lf.1 hp).1 q (mem_lf.1 hq).1) hnL (fun p hp hb => ?_) (fun hmk => ?_) (fun s hs' h9 hm => ?_) hr fun a' w' hr' => ?_
      · rcases h1.opd t ht with ⟨p, hp', rfl, hd⟩ | hno
        · rw [getT_in hus hp', getT_in huL (hdep' p hp' hd)]
        · rw [getT_out fun p hp' => hno p (hsuf p hp'), getT_out fun p hp' => hno p (mem_lf.1 hp').1]
      · rw [mem_lf, mem_lf, lst_set hlt']
        constructor
        · rintro ⟨h2, e | h3⟩
          · exact .inl (u2 p h2 (i', r) hp e)
          · exact .inr ⟨h2, h3⟩
        · rintro (rfl | ⟨h2, h3⟩)
          · exact ⟨hp, .inl rfl⟩
          · exact ⟨h2, .inr h3⟩
      · exact keyn_get (hSp p (mem_lf.1 hp).1 (by simp [isMk, hb])).2.2.1
      · have hmk' : isMk r = true := by simpa [isMk] using hmk
        obtain ⟨s1, s2, s3, s4, s5⟩ := hSp _ hp hmk'
        refine ⟨s1, s2, fun q hq => ?_, fun q hq c hc => s5 q (mem_lf.1 hq).1 c hc, ?_, fun hk => ?_⟩
        · cases hh : q.2.v.hasn r.d with
          | true => rfl
          | false =>
            exfalso
            obtain ⟨q1, q2⟩ := mem_lf.1 hq
            exact hin (men_listed (m := (i', r)) hp hmk' hdc (fun q hq => hq) hR q q1 q2 hh)
        · rw [getB_out fun p hp' hb e => ?_]
          · exact keyn_get s3
          · have := u1 p (mem_lf.1 hp').1 (i', r) hp e
            rw [this] at hp'
            exact hnL hp'
        · obtain ⟨k1, _⟩ := mem_kdrop.1 hk
          rcases mem_rK0.1 k1 with ⟨p, hp', _, e⟩ | k2
          · have := u1 p (mem_lf.1 hp').1 (i', r) hp e
            rw [this] at hp'
            exact hnL hp'
          · rw [memK_iff.2 k2] at s4; cases s4
      · refine mem_kdrop.2 ⟨mem_rK0.2 ?_, fun hc => ?_⟩
        · rcases h1.cns s hs' h9 with h2 | ⟨p, hp', e1, e2, e3⟩
          · exact .inr h2
          · exact .inl ⟨p, hdep' p hp' e3, e2, e1⟩
        · obtain ⟨q, hq, hqc⟩ := mem_rC.1 hc
          have := u3 q (mem_lf.1 hq).1 (i', r) hp s h9 hqc hs'
          rw [this] at hq
          exact hnL hq
      · refine ih _ a' w' (by simpa using hs) ?_ (fun p hp hl o'' ho'' k hk => ?_) (fun j hj hl => ?_) hr'
        · have := left_set hlt' hin
          simp only [Array.size_setIfInBounds]
          omega
        · refine (lst_set hlt').2 (.inr ?_)
          rcases (lst_set hlt').1 hl with e | hl
          · rw [e, ho] at ho''; cases ho''; exact hdep k hk
          · exact hdc p hp hl o'' ho'' k hk
        · rcases (lst_set hlt').1 hl with rfl | hl
          · obtain ⟨o2, ho2, hd2⟩ := okU_dep hT j hj
            rw [ho] at ho2; cases ho2
            exact hin (hdep j (hd2 j (List.mem_map.2 ⟨(j, r), hp, rfl⟩)))
          · exact hτ j hj hl
    · obtain ⟨o2, ho2, hd⟩ := okU_dep hT i h
      rw [ho] at ho2; cases ho2
      exact absurd (fun p hp => hdep _ (hd p.1 (List.mem_map.2 ⟨p, hp, rfl⟩))) hall

theorem tri_drawA {id : Nat} {ops : List Oper} {Q : Exit → AS → Prop} (hm : P.follows .mixedOrders = true) (order τ : List Nat)
    (h : DSeq P ops σ order [] fun recs => okE ops.toArray σ τ recs = true ∧ SemA P ops.toArray (recs.map (·.1)) τ (fullS recs σ) (Q .normal)) : Tri P ro n (.region id ops.toArray true) σ Q := by
  intro E hE a w hr
  refine wpIn_region_any hm ?_
  obtain ⟨recs, hg, hd, hq⟩ := dseq_good (P := P) (σ := σ) (ops := ops.toArray) (order := order) (acc := []) (K := fun recs => okE ops.toArray σ τ recs = true ∧ SemA P ops.toArray (recs.map (·.1)) τ (fullS recs σ) (Q .normal)) (by simpa using h) (by simp [GoodR])
  have hne : ∀ i, ¬ Lst (Array.replicate ops.toArray.size false) i := fun i hi => by
    unfold Lst at hi
    simp [Array.getD] at hi
  have hdrew : Rel E σ a { w with drawn := w.drawn + 1 } := by
    obtain ⟨g, h1, h2, h3⟩ := hr
    refine ⟨g, h1.heap rfl, ⟨h2.1, h2.2.1, fun t x hx => ⟨(h2.2.2.1 t x hx).1, (h2.2.2.1 t x hx).2.heap rfl⟩, h2.2.2.2⟩, h3.trans Ext.drew⟩
  have hl : left (Array.replicate ops.toArray.size false).size (Array.replicate ops.toArray.size false) ≤ ops.toArray.size := by
    unfold left
    refine Nat.le_trans (List.length_filter_le _ _) ?_
    simp
  refine phase1A (ops := ops.toArray) (recs := recs) (τ := τ) (K := Q .normal) (fun s a' w' hk hr' => ⟨s, hk, hr'⟩) hg hd (by simpa using hq) _ _ _ _ (by simp) hl (fun p _ hl => absurd hl (hne _)) (fun j _ => hne j) ?_
  have e : lf recs (Array.replicate ops.toArray.size false) = [] := List.filter_eq_nil_iff.2 fun p hp => by
    have := hne p.1
    simpa [Lst] using this
  rw [e]
  exact hdrew
end
end Go.Proofs.YtenigafbbdjagaaDoor.AL

/- A tail that leaves its order open: an element appended, put into its variable, and written. -/
namespace Go.Proofs.YtenigafbbdjagaaDoor.AL
open Go Go.RowKit
set_option linter.unusedVariables false
set_option linter.unusedSimpArgs false
section
variable {P : Program} {σ : AS} {ops : Array Oper} {K : AS → Prop} {o4 o5 o6 : Oper} {rest : List Oper} {d q i j s sz bytes : Nat} {ro : Option Nat} {n : Nat} {Q' : Exit → Act → World → Prop} {a : Act} {w w' : World}
theorem wpv {o : Oper} {v : Value} {X : Act → World → Prop} (hs : o.semAt (Fw ro).round a.eval = execOp a.eval o) (hx : (execOp a.eval o).run P w = .ok (.value v) w') (h : X (a.put o.dst v) w') : o.wpIn (Fw ro) n P a w X Q' := by
  refine ⟨fenceW o w _, ?_⟩
  rw [hs, hx]
  exact h
theorem wps {o : Oper} {X : Act → World → Prop} (hs : o.semAt (Fw ro).round a.eval = execOp a.eval o) (hx : (execOp a.eval o).run P w = .ok .skip w') (h : X (a.put o.dst Go.undef) w') : o.wpIn (Fw ro) n P a w X Q' := by
  refine ⟨fenceW o w _, ?_⟩
  rw [hs, hx]
  exact h
theorem semA_one {f i0 j : Nat} {prev rem : List Nat} {o : Oper} (hr : rdyA ops prev (i0 :: rem) = [j]) (hat : ops[j]? = some o) (hg : o.guard = none)
    (h : o.wpIn (Fw ro) n P a w (fun a w => semA P ro n ops Q' f (j :: prev) ((i0 :: rem).erase j) a w) Q') : semA P ro n ops Q' (f + 1) prev (i0 :: rem) a w := by
  refine ⟨by rw [hr]; simp, fun j' hj o' ho => ?_⟩
  rw [hr, List.mem_singleton] at hj
  subst hj
  rw [hat] at ho; cases ho
  rw [if_pos (by simp [Region.wanted, hg])]
  exact h
theorem semA_two {f i0 j k : Nat} {prev rem : List Nat} {o o' : Oper} (hr : rdyA ops prev (i0 :: rem) = [j, k]) (hat : ops[j]? = some o) (hat' : ops[k]? = some o') (hg : o.guard = none) (hg' : o'.guard = none)
    (h : o.wpIn (Fw ro) n P a w (fun a w => semA P ro n ops Q' f (j :: prev) ((i0 :: rem).erase j) a w) Q') (h' : o'.wpIn (Fw ro) n P a w (fun a w => semA P ro n ops Q' f (k :: prev) ((i0 :: rem).erase k) a w) Q') : semA P ro n ops Q' (f + 1) prev (i0 :: rem) a w := by
  refine ⟨by rw [hr]; simp, fun j' hj o1 ho => ?_⟩
  rw [hr] at hj
  simp only [List.mem_cons, List.not_mem_nil, or_false] at hj
  rcases hj with rfl | rfl
  · rw [hat] at ho; cases ho
    rw [if_pos (by simp [Region.wanted, hg])]
    exact h
  · rw [hat'] at ho; cases ho
    rw [if_pos (by simp [Region.wanted, hg'])]
    exact h'
theorem semA_push7 {i4 i5 i6 i7 : Nat} {prev : List Nat} {t t2 te tx e e2 by2 : TypeId} {x y : Operand} {k : IntKind} {xs zs : List AV} {z yv : AV} {o7 : Oper} {t7 : TypeId} {p s7 : Nat} {c7 : TV} (g7 : o7.guard = none) (h7 : o7.op = .store t7 (.tmp p) (.tmp d)) (d7 : o7.dst = none) (hp : get p σ.t = some (.loc s7 0)) (hpd : (p == d) = false) (hs7d : (s7 == d) = false) (hbx : get s7 (killB d σ.b) = some [c7]) (ht7 : (aty P t7).size = 1) (g4 : o4.guard = none) (g5 : o5.guard = none) (g6 : o6.guard = none)
    (h4 : o4.op = .call { callee := .builtin .append, args := #[x, y], argTypes := #[t, tx] }) (d4 : o4.dst = some d) (hd : d < σ.n) (hd' : d < 999999)
    (h5 : o5.op = .indexAddr t2 (.tmp d) (.tmp i)) (d5 : o5.dst = some q) (hq : q < σ.n) (hqd : (q == d) = false) (hid : (i == d) = false)
    (h6 : o6.op = .store te (.tmp q) (.tmp j)) (d6 : o6.dst = none) (hjd : (j == d) = false) (hjq : (j == q) = false)
    (hx : evT P t σ x = .ap sz xs s) (hs9 : s ≤ 999999) (hlv : s = 999999 ∨ memK s σ.k = true) (hy : srcA P σ tx sz y = some [z]) (hi : get i σ.t = some (.v (.int k (xs.length : Int)))) (hj : get j σ.t = some (.v yv)) (hyc : yv.cells.length = sz)
    (ht : aty P t = .slice e sz bytes) (ht2 : aty P t2 = .slice e2 sz by2) (hte : (aty P te).size = sz) (hz : zeroC P e = some zs) (hz0 : sz ≠ 0) (hzs : zs.length = sz)
    (hb : (xs.length + 1) * bytes ≤ 140737488355328) (hml : xs.length + 1 ≤ 9223372036854775807) (hpq : (p == q) = false)
    (at4 : ops[i4]? = some o4) (at5 : ops[i5]? = some o5) (at6 : ops[i6]? = some o6) (at7 : ops[i7]? = some o7)
    (r1 : rdyA ops prev [i4, i5, i6, i7] = [i4]) (r2 : rdyA ops (i4 :: prev) [i5, i6, i7] = [i5, i7]) (r3 : rdyA ops (i5 :: i4 :: prev) [i6, i7] = [i6, i7]) (r4 : rdyA ops (i6 :: i5 :: i4 :: prev) [i7] = [i7]) (r5 : rdyA ops (i7 :: i5 :: i4 :: prev) [i6] = [i6])
    (r6 : rdyA ops (i7 :: i4 :: prev) [i5, i6] = [i5]) (r7 : rdyA ops (i5 :: i7 :: i4 :: prev) [i6] = [i6]) (x1 : [i5, i6, i7].erase i7 = [i5, i6]) (x2 : [i6, i7].erase i7 = [i6])
    (h : K ⟨σ.n, (q, .undef) :: (d, .ap sz (xs ++ [yv]) d) :: killT d σ.t, setB s7 [.ap sz (xs ++ [yv]) d] (killB d σ.b), d :: pushK d s σ.k⟩) : SemA P ops prev [i4, i5, i6, i7] σ K := by
  intro ro n E a w Q' hr hK
  obtain ⟨a4, a5, w4, w5, w6, w7, ⟨S, hx4, ha4⟩, ⟨T, ha5, hx5⟩, h47, h57, h56, h56', h57', hrel⟩ := push7_core (ro := ro) g7 h7 d7 hp hpd hs7d hbx ht7 g4 g5 g6 h4 d4 hd hd' h5 d5 hq hqd hid h6 d6 hjd hjq hx hs9 hlv hy hi hj hyc ht ht2 hte hz hz0 hzs hb hml hpq hr
  have q4 : ∀ a' : Act, o4.semAt (Fw ro).round a'.eval = execOp a'.eval o4 := fun a' => Oper.semAt_eq _ _ _ (by simp [h4])
  have q5 : ∀ a' : Act, o5.semAt (Fw ro).round a'.eval = execOp a'.eval o5 := fun a' => Oper.semAt_eq _ _ _ (by simp [h5])
  have q6 : ∀ a' : Act, o6.semAt (Fw ro).round a'.eval = execOp a'.eval o6 := fun a' => Oper.semAt_eq _ _ _ (by simp [h6])
  have q7 : ∀ a' : Act, o7.semAt (Fw ro).round a'.eval = execOp a'.eval o7 := fun a' => Oper.semAt_eq _ _ _ (by simp [h7])
  have fin : Q' .normal a5 w7 := hK _ _ _ h hrel
  show semA P ro n ops Q' 4 prev [i4, i5, i6, i7] a w
  refine semA_one r1 at4 g4 (wpv (q4 a) hx4 ?_)
  rw [d4, ← ha4, List.erase_cons_head]
  refine semA_two r2 at5 at7 g5 g7 (wpv (q5 a4) (hx5 w4) ?_) (wps (q7 a4) h47 ?_)
  · rw [d5, ← ha5, List.erase_cons_head]
    refine semA_two r3 at6 at7 g6 g7 (wps (q6 a5) h56 ?_) (wps (q7 a5) h57 ?_)
    · rw [d6, List.erase_cons_head]
      show semA P ro n ops Q' 1 _ [i7] a5 w6
      refine semA_one r4 at7 g7 (wps (q7 a5) h57' ?_)
      rw [d7, List.erase_cons_head]
      exact fin
    · rw [d7, x2]
      show semA P ro n ops Q' 1 _ [i6] a5 w5
      refine semA_one r5 at6 g6 (wps (q6 a5) h56' ?_)
      rw [d6, List.erase_cons_head]
      exact fin
  · rw [d7, x1]
    show semA P ro n ops Q' 2 _ [i5, i6] a4 w5
    refine semA_one r6 at5 g5 (wpv (q5 a4) (hx5 w5) ?_)
    rw [d5, ← ha5, List.erase_cons_head]
    refine semA_one r7 at6 g6 (wps (q6 a5) h56' ?_)
    rw [d6, List.erase_cons_head]
    exact fin
end
end Go.Proofs.YtenigafbbdjagaaDoor.AL

/- A package variable's table, read. -/
namespace Go.Proofs.YtenigafbbdjagaaDoor.AL
open Go Go.RowKit
set_option linter.unusedVariables false
set_option linter.unusedSimpArgs false
section
variable {P : Program} {σ : AS} {o : Oper} {d : Nat} {K : AS → Prop}
theorem lead_gix {t b len ag' : Nat} {ag : Bool} {i : Operand} {k k2 : IntKind} {n z : Int} {vals : List Value} (ho : o.op = .indexAddr t (.global b) i) (hdst : o.dst = some d) (hd : d < σ.n)
    (hi : (ev σ i).dat = some (.int k n)) (ht : aty P t = .arr ag' len 1 ag) (hn : 0 ≤ n ∧ n < (len : Int)) (htab : (b, vals) ∈ tabs) (hz : vals[n.toNat]? = some (.int k2 z)) (h : K (σ.put d (.v (.ro [.int k2 z])))) : Leads P σ o K := by
  intro ro m E a w K' Q' hr hK
  obtain ⟨g, h1, h2, h3⟩ := hr
  obtain ⟨e, hu, _, hes, _⟩ := aty_arr ht
  have vi := int_inv (datR h2 hi)
  have hM : g.M b n.toNat = some (.int k2 z) := (E.tabAt h3).m (b, vals) htab n.toNat _ hz
  refine goes_wpIn (E := E) (σ' := σ.put d (.v (.ro [.int k2 z]))) (by simp [ho]) ⟨.pointer (some ⟨b, 0 + n.toNat * 1, none⟩), w, .inl ?_, ?_⟩ fun v w' hr' => hK _ _ _ h hr'
  · simp only [execOp, ho]
    refine runV ?_
    rw [vi]
    show (Instr.indexAt t (.pointer (some ⟨b, 0, none⟩)) (.int k n)).run P w = _
    simp [Instr.indexAt, asIntOf, run_underlying hu, Instr.sureAddr, hn, run_sizeOf hes (by omega : (1 : Nat) ≠ 0), add_none]
  · rw [hdst]
    refine ⟨g, h1, Tmps.cons h2 hd (.v _ _ (.ro [.int k2 z] b _ (fun _ => .int k2 z) (fun j c hj => ?_) (fun j c hj => ?_))), h3⟩
    · cases j with
      | zero => simpa using hM
      | succ j => simp at hj
    · cases j with
      | zero => simp only [List.getElem?_cons_zero, Option.some.injEq] at hj; subst hj; exact .int _ _
      | succ j => simp at hj
end
end Go.Proofs.YtenigafbbdjagaaDoor.AL

/- Strings: told rune by rune; made of runes and of bytes. -/
namespace Go.Proofs.YtenigafbbdjagaaDoor.AL
open Go Go.RowKit
set_option linter.unusedVariables false
set_option linter.unusedSimpArgs false
section
variable {P : Program} {E : E0} {g : GS} {w w' : World} {σ : AS} {a : Act} {o : Oper} {d : Nat} {v : Value} {K : AS → Prop}

/-- A string's rune at a place, and how many bytes it takes. -/
def decB (str : List UInt8) (pos : Nat) : Nat × Nat := Utf8.decode ⟨str.toArray⟩ pos
def AS.newIt (σ : AS) (d : Nat) (str : List UInt8) : AS := ⟨σ.n, (d, .it d str 0) :: killT d σ.t, killB d σ.b, d :: killK d σ.k⟩
theorem newIt_rel (h1 : Wf g w σ.b σ.k) (h2 : Tmps g w σ a) (h3 : Ext E.g E.w g w) (hd : d < σ.n) (hd' : d < 999999) (str : List UInt8) :
    Rel E (σ.newIt d str) (a.put (some d) (.pointer (some ⟨w.heap.size, 0, none⟩))) (w.alloc (.stringIter ⟨str.toArray⟩ 0)) := by
  have hW := h1.newO (s := d) (m := 0) (vs := #[]) (vr := false) (tk := true) (w1 := w) (ob := .stringIter ⟨str.toArray⟩ 0) rfl (fun h => by cases h) rfl
  have hκ : (g.new w.heap.size d 0 #[] false true).κ d = some (some w.heap.size) := by simp [GS.new]
  refine ⟨g.new w.heap.size d 0 #[] false true, ?_, ?_, h3.new h1 rfl rfl rfl rfl (by omega)⟩
  · exact
    { hW with
      live := fun t ht => by
        simp only [AS.newIt, List.mem_cons] at ht
        rcases ht with rfl | ht
        · rw [hκ]; simp
        · exact hW.live t ht }
  · refine Tmps.cons (σ := σ) (ts := killT d σ.t) ?_ hd (.it d str 0 _ fun ob hob => ?_)
    · refine ⟨h2.1, h2.2.1, fun t y hy => ?_, by simp only [GS.new]; rw [if_neg (by omega)]; exact h2.2.2.2⟩
      simp only [get_killT] at hy
      cases hg : get t σ.t with
      | none => simp [hg] at hy
      | some z =>
        simp only [hg, Option.map_some, Option.some.injEq] at hy
        subst hy
        exact ⟨(h2.2.2.1 t z hg).1, (h2.2.2.1 t z hg).2.new h1 rfl⟩
    · rw [hκ] at hob
      cases hob
      exact ⟨_, rfl, rfl, heap_alloc_at w _⟩

def AS.stepIt (σ : AS) (d t s : Nat) (str : List UInt8) (pos : Nat) (x : TV) : AS := ⟨σ.n, (d, x) :: (t, .it s str pos) :: killT s σ.t, killB s σ.b, s :: killK s σ.k⟩
/-- The world with an iterator put to a place. -/
def itAt (w : World) (b : Nat) (str : List UInt8) (pos : Nat) : World := { w with heap := w.heap.setIfInBounds b (.stringIter ⟨str.toArray⟩ pos) }
theorem itAt_at {b p pos : Nat} {str : List UInt8} (h : w.heap[b]? = some (.stringIter ⟨str.toArray⟩ p)) : (itAt w b str pos).heap[b]? = some (.stringIter ⟨str.toArray⟩ pos) := by
  have hlt : b < w.heap.size := (Array.getElem?_eq_some_iff.1 h).1
  simp [itAt, hlt]
theorem itAt_ne {b c pos : Nat} {str : List UInt8} (h : c ≠ b) : (itAt w b str pos).heap[c]? = w.heap[c]? := by
  show (w.heap.setIfInBounds b _)[c]? = _
  rw [Array.getElem?_setIfInBounds, if_neg (fun e => h e.symm)]
theorem itAt_size {b pos : Nat} {str : List UInt8} : (itAt w b str pos).heap.size = w.heap.size := by simp [itAt]

theorem stepIt_rel (h1 : Wf g w σ.b σ.k) (h2 : Tmps g w σ a) (h3 : Ext E.g E.w g w) {t s p : Nat} {str : List UInt8} (hs : s ∈ σ.k) (hs9 : s < 999999) (ht : get t σ.t = some (.it s str p)) :
    ∃ b, a.tmps.getD t undef = .pointer (some ⟨b, 0, none⟩) ∧ w.heap[b]? = some (.stringIter ⟨str.toArray⟩ p) ∧
      ∀ pos, Rel E ⟨σ.n, (t, .it s str pos) :: killT s σ.t, killB s σ.b, s :: killK s σ.k⟩ a (itAt w b str pos) := by
  obtain ⟨htn, hRT⟩ := h2.2.2.1 t _ ht
  cases hRT with
  | it s str p x hk =>
  cases hκ : g.κ s with
  | none => exact absurd hκ (h1.live s hs)
  | some ob =>
  obtain ⟨b, rfl, hv, hb⟩ := hk ob hκ
  refine ⟨b, hv, hb, fun pos => ?_⟩
  have hX : g.X b := .inr ⟨s, hκ⟩
  have hMn : ∀ o, g.M b o = none := fun o => by
    cases hm : g.M b o with
    | none => rfl
    | some u =>
      have := (h1.mem b o u hm).1
      simp [World.cell?, hb] at this
  have keep : ∀ {y : TV} {u : Value}, RT g w y u → RT g (itAt w b str pos) (y.kill s) u := fun {y u} hy =>
    RT.keepK (g := g) (g' := g) (w := w) (fun _ _ _ h => h) (fun t b' _ hb' => hb') (fun t' ob' ht' hob' => ⟨hob', fun b' hb' => ⟨itAt_ne (fun e => ht' (h1.ik t' s b (by rw [hob', hb', e]) hκ)), fun _ h => h⟩⟩) hy
  refine ⟨g, ?_, ⟨h2.1, h2.2.1, fun t' y hy => ?_, h2.2.2.2⟩, ?_⟩
  · exact
    { mem := fun b' o u hu => by
        have h4 := h1.mem b' o u hu
        have hne : b' ≠ b := fun e => by rw [e, hMn o] at hu; cases hu
        refine ⟨?_, h4.2⟩
        have h5 : (itAt w b str pos).heap[b']? = w.heap[b']? := itAt_ne hne
        simpa [World.cell?, h5] using h4.1
      box := fun t' cs' ht' => by
        obtain ⟨e1, cs, e2, rfl⟩ := get_killB s t' σ.b cs' ht'
        obtain ⟨b', vs, e, q1, q2, q3, q4, q5⟩ := h1.box t' cs e2
        have hne : b' ≠ b := fun e => h1.ap t' s b (by rw [← e]; exact q1) hκ
        refine ⟨b', vs, e, q1, by rw [itAt_ne hne]; exact q2, by simpa using q3, fun j c u hc hu => ?_, q5⟩
        rw [← killL_map] at hc
        obtain ⟨c0, h0, rfl⟩ := getElem?_killL hc
        exact ⟨keep (q4 j c0 u h0 hu).1, (q4 j c0 u h0 hu).2⟩
      ij := h1.ij
      ik := h1.ik
      ap := h1.ap
      ltφ := fun t' c hc => by rw [itAt_size]; exact h1.ltφ t' c hc
      ltκ := fun t' c hc => by rw [itAt_size]; exact h1.ltκ t' c hc
      nφ := h1.nφ
      live := fun t' ht' => by
        simp only [List.mem_cons] at ht'
        rcases ht' with rfl | ht'
        · rw [hκ]; simp
        · exact h1.live t' (mem_killK s t' σ.k ht').2
      dfr := fun j hj => by
        rw [itAt_ne (fun e => h1.dX j hj (by rw [e]; exact hX))]; exact h1.dfr j hj
      dnd := h1.dnd
      dX := h1.dX }
  · simp only [get] at hy
    cases hte : t' == t
    · simp only [hte, cond_false, get_killT] at hy
      cases hg : get t' σ.t with
      | none => simp [hg] at hy
      | some z =>
        simp only [hg, Option.map_some, Option.some.injEq] at hy
        subst hy
        exact ⟨(h2.2.2.1 t' z hg).1, keep (h2.2.2.1 t' z hg).2⟩
    · simp only [hte, cond_true, Option.some.injEq] at hy
      simp only [beq_iff_eq] at hte
      subst hy; subst hte
      refine ⟨htn, .it s str pos _ fun ob' hob' => ?_⟩
      rw [hκ] at hob'
      cases hob'
      exact ⟨b, rfl, hv, itAt_at hb⟩
  · exact
    { h3 with
      heap := fun j hj hx => by
        have hne : j ≠ b := fun e => by
          rcases h3.κn s b hκ with h6 | h6
          · omega
          · exact hx (by rw [e]; exact h6)
        rw [itAt_ne hne]; exact h3.heap j hj hx
      size := by rw [itAt_size]; exact h3.size
      os := h3.os
      tape := h3.tape
      output := h3.output }

theorem lead_range {t : TypeId} {x : Operand} {str : List UInt8} (ho : o.op = .range t x) (hdst : o.dst = some d) (hd : d < σ.n) (hd' : d < 999999) (hx : (ev σ x).dat = some (.str str)) (ht : aty P t = .str) (h : K (σ.newIt d str)) : Leads P σ o K := by
  intro ro m E a w K' Q' hr hK
  obtain ⟨g, h1, h2, h3⟩ := hr
  have hu := aty_str ht
  have vx := str_inv (datR h2 hx)
  have hrel := newIt_rel (E := E) (a := a) (σ := σ) h1 h2 h3 hd hd' str
  refine goes_wpIn (E := E) (σ' := σ.newIt d str) (by simp [ho]) ⟨_, _, .inl ?_, by rw [hdst]; exact hrel⟩ fun v w' hr' => hK _ _ _ h hr'
  simp only [execOp, ho]
  refine runV ?_
  rw [vx]
  exact run_range_string w t _ hu

theorem run_next_at' {b pos : Nat} {str : List UInt8} (ty : TypeId) (hk : w.heap[b]? = some (.stringIter ⟨str.toArray⟩ pos)) (h : pos < str.length) :
    (Instr.next (.pointer (some ⟨b, 0, none⟩)) true ty).run P w = .ok (.tuple #[.bool true, .int .i64 pos, .int .i32 (decB str pos).1]) (itAt w b str (pos + (decB str pos).2)) := by
  have h' : pos < (ByteArray.mk str.toArray).size := by show pos < str.toArray.size; simpa using h
  simp only [Instr.next, getObj, setObj, Sem.run_bind, Sem.run, hk, Result.andThen, h', if_true]
  simp [goInt, itAt, decB]
theorem run_next_end' {b pos : Nat} {str : List UInt8} (ty : TypeId) (hk : w.heap[b]? = some (.stringIter ⟨str.toArray⟩ pos)) (h : ¬ pos < str.length) :
    (Instr.next (.pointer (some ⟨b, 0, none⟩)) true ty).run P w = .ok (.tuple #[.bool false]) w := by
  have h' : ¬ pos < (ByteArray.mk str.toArray).size := by show ¬ pos < str.toArray.size; simpa using h
  simp [Instr.next, getObj, Sem.run, hk, h']

theorem lead_next {t s p : Nat} {str : List UInt8} (ho : o.op = .next (.tmp t) true) (hdst : o.dst = some d) (hd : d < σ.n) (ht : get t σ.t = some (.it s str p)) (hs : memK s σ.k = true) (hs9 : s < 999999) (hp : p < str.length)
    (h : K (σ.stepIt d t s str (p + (decB str p).2) (.tup [.v (.bool true), .v (.int .i64 p), .v (.int .i32 (decB str p).1)]))) : Leads P σ o K := by
  intro ro m E a w K' Q' hr hK
  obtain ⟨g, h1, h2, h3⟩ := hr
  obtain ⟨b, hv, hb, hrel⟩ := stepIt_rel (E := E) h1 h2 h3 (memK_mem hs) hs9 ht
  have hrun := run_next_at' (P := P) o.type hb hp
  refine goes_wpIn (E := E) (σ' := σ.stepIt d t s str (p + (decB str p).2) (.tup [.v (.bool true), .v (.int .i64 p), .v (.int .i32 (decB str p).1)])) (by simp [ho]) ⟨.tuple #[.bool true, .int .i64 p, .int .i32 (decB str p).1], itAt w b str (p + (decB str p).2), .inl ?_, ?_⟩ fun v w' hr' => hK _ _ _ h hr'
  · simp only [execOp, ho]
    refine runV ?_
    show (Instr.next (a.tmps.getD t undef) true o.type).run P w = _
    rw [hv]; exact hrun
  · rw [hdst]
    obtain ⟨g', q1, q2, q3⟩ := hrel (p + (decB str p).2)
    refine ⟨g', q1, Tmps.cons (σ := ⟨σ.n, (t, .it s str (p + (decB str p).2)) :: killT s σ.t, killB s σ.b, s :: killK s σ.k⟩) q2 hd (.tup _ _ rfl fun j c u hc hu => ?_), q3⟩
    match j, hc, hu with
    | 0, hc, hu => simp at hc hu; subst hc; subst hu; exact .v _ _ (.bool _)
    | 1, hc, hu => simp at hc hu; subst hc; subst hu; exact .v _ _ (.int _ _)
    | 2, hc, hu => simp at hc hu; subst hc; subst hu; exact .v _ _ (.int _ _)
    | j + 3, hc, _ => simp at hc

theorem lead_nextE {t s p : Nat} {str : List UInt8} (ho : o.op = .next (.tmp t) true) (hdst : o.dst = some d) (hd : d < σ.n) (ht : get t σ.t = some (.it s str p)) (hs : memK s σ.k = true) (hs9 : s < 999999) (hp : ¬ p < str.length)
    (h : K (σ.put d (.tup [.v (.bool false)]))) : Leads P σ o K := by
  intro ro m E a w K' Q' hr hK
  obtain ⟨g, h1, h2, h3⟩ := hr
  obtain ⟨b, hv, hb, hrel⟩ := stepIt_rel (E := E) h1 h2 h3 (memK_mem hs) hs9 ht
  have hrun := run_next_end' (P := P) o.type hb hp
  refine goes_wpIn (E := E) (σ' := σ.put d (.tup [.v (.bool false)])) (by simp [ho]) ⟨.tuple #[.bool false], w, .inl ?_, ?_⟩ fun v w' hr' => hK _ _ _ h hr'
  · simp only [execOp, ho]
    refine runV ?_
    show (Instr.next (a.tmps.getD t undef) true o.type).run P w = _
    rw [hv]; exact hrun
  · rw [hdst]
    refine ⟨g, h1, Tmps.cons h2 hd (.tup _ _ rfl fun j c u hc hu => ?_), h3⟩
    match j, hc, hu with
    | 0, hc, hu => simp at hc hu; subst hc; subst hu; exact .v _ _ (.bool _)
    | j + 1, hc, _ => simp at hc

/-- A rune's bytes. -/
def encB (n : Int) : List UInt8 := (Utf8.encode n).data.toList
theorem lead_rstr {t u : TypeId} {x : Operand} {k : IntKind} {n : Int} (ho : o.op = .convert t u x) (hdst : o.dst = some d) (hd : d < σ.n) (hx : (ev σ x).dat = some (.int k n)) (ht : aty P t = .int k) (hu : aty P u = .str) (h : K (σ.put d (.v (.str (encB n))))) : Leads P σ o K := by
  intro ro m E a w K' Q' hr hK
  obtain ⟨g, h1, h2, h3⟩ := hr
  have hs := aty_int ht
  have hds := aty_str hu
  have vi := int_inv (datR h2 hx)
  have e : (Utf8.encode n) = ⟨(encB n).toArray⟩ := by unfold encB; simp
  refine goes_wpIn (E := E) (σ' := σ.put d (.v (.str (encB n)))) (by simp [ho]) ⟨.string (Utf8.encode n), w, .inl ?_, ?_⟩ fun v w' hr' => hK _ _ _ h hr'
  · simp only [execOp, ho]
    refine runV ?_
    rw [vi]
    exact run_convert_int_string w t u k n (by rw [hs]; rfl) hds
  · rw [hdst]
    exact ⟨g, h1, Tmps.cons h2 hd (.v _ _ (by rw [e]; exact .str _)), h3⟩

/-- Runes' bytes, one behind the other. -/
def encL (l : List Int) : List UInt8 := l.flatMap encB
theorem runesBytes_eq (l : List Int) : runesBytes l = ⟨(encL l).toArray⟩ := by
  have key : ∀ (l : List Int) (s : ByteArray), l.foldl (fun r n => r ++ Utf8.encode n) s = ⟨(s.data.toList ++ encL l).toArray⟩ := by
    intro l
    induction l with
    | nil => intro s; simp [encL]
    | cons x l ih =>
      intro s
      rw [List.foldl_cons, ih]
      simp [encL, encB, ByteArray.data_append]
  unfold runesBytes
  rw [key]
  simp
theorem flat_ints (k : IntKind) : ∀ l : List Int, flat (l.map (AV.int k)) = l.map (AV.int k)
  | [] => rfl
  | x :: l => by
    have ih := flat_ints k l
    simp only [List.map_cons, flat, List.flatMap_cons] at ih ⊢
    rw [ih]; rfl
theorem lead_runes {t u e by_ : TypeId} {x : Operand} {l : List Int} (ho : o.op = .convert t u x) (hdst : o.dst = some d) (hd : d < σ.n) (hx : (ev σ x).dat = some (.sl 1 (l.map (.int .i32)))) (ht : aty P t = .slice e 1 by_) (he : aty P e = .int .i32) (hu : aty P u = .str)
    (h : K (σ.put d (.v (.str (encL l))))) : Leads P σ o K := by
  intro ro m E a w K' Q' hr hK
  obtain ⟨g, h1, h2, h3⟩ := hr
  obtain ⟨hs, _, _⟩ := aty_slice ht
  have hes := aty_int he
  have hds := aty_str hu
  refine goes_wpIn (E := E) (σ' := σ.put d (.v (.str (encL l)))) (by simp [ho]) ⟨.string ⟨(encL l).toArray⟩, w, .inl ?_, ?_⟩ fun v w' hr' => hK _ _ _ h hr'
  · simp only [execOp, ho]
    refine runV ?_
    rcases sl_inv (datR h2 hx) with ⟨h0, a0, cap, hv, _, _⟩ | ⟨b, off, cap, vs, hv, _, _, _, hM, hR⟩
    · have hl : l = [] := by simpa using h0
      subst hl
      rw [hv]
      cases a0 with
      | none => rw [run_convert_runes_nil w t u e _ _ hs hes hds]; rfl
      | some a0 =>
        have := run_convert_runes (P := P) w t u e a0 0 cap [] (by simp) hs hes hds (fun j hj => by simp at hj)
        rw [this]; rfl
    · rw [hv]
      have := run_convert_runes (P := P) w t u e ⟨b, off, none⟩ (l.map (AV.int .i32)).length cap l (by simp) hs hes hds (fun j hj => by
        have hj' : (flat (l.map (AV.int .i32)))[j]? = some (.int .i32 (l.getD j 0)) := by
          have e0 := flat_ints IntKind.i32 l
          rw [e0, List.getElem?_map, List.getElem?_eq_getElem hj]
          simp [List.getD, List.getElem?_eq_getElem hj]
        have h5 := hM j _ hj'
        have h6 := int_inv (hR j _ hj')
        have h7 := (h1.mem b (off + j) _ h5).1
        rw [h6] at h7
        rw [add_none]; simpa using h7)
      rw [this, List.length_map, List.take_length, runesBytes_eq]
  · rw [hdst]
    exact ⟨g, h1, Tmps.cons h2 hd (.v _ _ (.str _)), h3⟩
end
end Go.Proofs.YtenigafbbdjagaaDoor.AL

/- Strings made of bytes; is an error nil. -/
namespace Go.Proofs.YtenigafbbdjagaaDoor.AL
open Go Go.RowKit
set_option linter.unusedVariables false
set_option linter.unusedSimpArgs false
section
variable {P : Program} {σ : AS} {o : Oper} {d : Nat} {K : AS → Prop}
theorem lead_bytes {t u e by_ : TypeId} {x : Operand} {l : List UInt8} (ho : o.op = .convert t u x) (hdst : o.dst = some d) (hd : d < σ.n) (hx : (ev σ x).dat = some (.sl 1 (l.map fun b => .int .u8 (b.toNat : Int)))) (ht : aty P t = .slice e 1 by_) (he : aty P e = .int .u8) (hu : aty P u = .str)
    (h : K (σ.put d (.v (.str l)))) : Leads P σ o K := by
  intro ro m E a w K' Q' hr hK
  obtain ⟨g, h1, h2, h3⟩ := hr
  obtain ⟨hs, _, _⟩ := aty_slice ht
  have hes := aty_int he
  have hds := aty_str hu
  have hf : flat (l.map fun b => AV.int .u8 (b.toNat : Int)) = l.map fun b => AV.int .u8 (b.toNat : Int) := by
    have := flat_ints IntKind.u8 (l.map fun b => (b.toNat : Int))
    simpa [List.map_map, Function.comp_def] using this
  refine goes_wpIn (E := E) (σ' := σ.put d (.v (.str l))) (by simp [ho]) ⟨.string ⟨l.toArray⟩, w, .inl ?_, ?_⟩ fun v w' hr' => hK _ _ _ h hr'
  · simp only [execOp, ho]
    refine runV ?_
    rcases sl_inv (datR h2 hx) with ⟨h0, a0, cap, hv, _, _⟩ | ⟨b, off, cap, vs, hv, _, _, _, hM, hR⟩
    · have hl : l = [] := by simpa using h0
      subst hl
      rw [hv, run_convert_bytes_string w t u e a0 0 cap hs hes hds]
      cases a0 with
      | none => rfl
      | some a0 =>
        have := run_convert_bytes_back (P := P) w t u e a0 cap [] hs hes hds (fun j hj => by simp at hj)
        rw [run_convert_bytes_string w t u e (some a0) ([] : List UInt8).length cap hs hes hds] at this
        exact this
    · rw [hv]
      have := run_convert_bytes_back (P := P) w t u e ⟨b, off, none⟩ cap l hs hes hds (fun j hj => by
        have hj' : (flat (l.map fun b => AV.int .u8 (b.toNat : Int)))[j]? = some (.int .u8 (l[j].toNat : Int)) := by
          rw [hf, List.getElem?_map, List.getElem?_eq_getElem hj]; rfl
        have h5 := hM j _ hj'
        have h6 := int_inv (hR j _ hj')
        have h7 := (h1.mem b (off + j) _ h5).1
        rw [h6] at h7
        rw [add_none]; simpa using h7)
      simpa using this
  · rw [hdst]
    exact ⟨g, h1, Tmps.cons h2 hd (.v _ _ (.str _)), h3⟩
/-- Is an error not nil? -/
theorem lead_en {t yt : TypeId} {x : Operand} {ms : Array (String × TypeId)} (ho : o.op = .binOp .neq t x (.const .nilIface) yt) (hdst : o.dst = some d) (hd : d < σ.n)
    (hx : (ev σ x).dat = some .nilI) (hu : P.underlying t = some (.interface ms)) (h : K (σ.put d (.v (.bool false)))) : Leads P σ o K := by
  intro ro m E a w K' Q' hr hK
  obtain ⟨g, h1, h2, h3⟩ := hr
  have hR := datR h2 hx
  have hun : (Op.equalIn Op.maxDepth t .nilIface .nilIface).run P w = .ok true w := by
    show (Op.equalIn (9999 + 1) t .nilIface .nilIface).run P w = _
    unfold Op.equalIn
    simp [run_underlying hu]
  have key : (binOp .neq t (a.eval x) .nilIface).run P w = .ok (.bool false) w ∧ (eqGuard .neq t x (.const .nilIface) (a.eval x) .nilIface).run P w = .ok () w := by
    generalize a.eval x = v at hR
    cases hR with
    | nilI => exact ⟨by simp [binOp, Op.equal, hun], by simp [eqGuard]⟩
  refine goes_wpIn (E := E) (σ' := σ.put d (.v (.bool false))) (by simp [ho]) ⟨.bool false, w, .inl (execBin ho key.2 key.1), ?_⟩ fun v w' hr' => hK _ _ _ h hr'
  rw [hdst]
  exact ⟨g, h1, Tmps.cons h2 hd (.v _ _ (.bool false)), h3⟩
theorem lead_ei {t yt ty : TypeId} {x : Operand} {c : AV} {ms : Array (String × TypeId)} (ho : o.op = .binOp .neq t x (.const .nilIface) yt) (hdst : o.dst = some d) (hd : d < σ.n)
    (hx : (ev σ x).dat = some (.iface ty c)) (hu : P.underlying t = some (.interface ms)) (h : K (σ.put d (.v (.bool true)))) : Leads P σ o K := by
  intro ro m E a w K' Q' hr hK
  obtain ⟨g, h1, h2, h3⟩ := hr
  have hR := datR h2 hx
  have hun : ∀ v, (Op.equalIn Op.maxDepth t (.iface ty v) .nilIface).run P w = .ok false w := fun v => by
    show (Op.equalIn (9999 + 1) t (.iface ty v) .nilIface).run P w = _
    unfold Op.equalIn
    simp [run_underlying hu]
  have key : (binOp .neq t (a.eval x) .nilIface).run P w = .ok (.bool true) w ∧ (eqGuard .neq t x (.const .nilIface) (a.eval x) .nilIface).run P w = .ok () w := by
    generalize a.eval x = v at hR
    cases hR with
    | iface ty c v h => exact ⟨by simp [binOp, Op.equal, hun], eqGuard_plain (by simp) (by simp)⟩
  refine goes_wpIn (E := E) (σ' := σ.put d (.v (.bool true))) (by simp [ho]) ⟨.bool true, w, .inl (execBin ho key.2 key.1), ?_⟩ fun v w' hr' => hK _ _ _ h hr'
  rw [hdst]
  exact ⟨g, h1, Tmps.cons h2 hd (.v _ _ (.bool true)), h3⟩
end
end Go.Proofs.YtenigafbbdjagaaDoor.AL
