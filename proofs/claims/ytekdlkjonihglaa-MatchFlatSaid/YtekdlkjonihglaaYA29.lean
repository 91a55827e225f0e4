/- Slices of the run's own, whose cells may be written: made, looked at, cleared, copied into, handed back. -/
import Derived.Test.YtekdlkjonihglaaYA28
import Derived.Test.YtekdlkjonihglaaYMB
import Derived.Laws.MakeOwn
import Derived.Laws.CopyRow
namespace Go.Proofs.Ytekdlkjonihglaa.AL
open Go Go.RowKit
set_option linter.unusedVariables false
set_option linter.unusedSimpArgs false
section
variable {P : Program} {E : E0} {g : GS} {w w' : World} {σ : AS} {a : Act} {o : Oper} {d : Nat} {K : AS → Prop} {v : Value} {s sz off n cap : Nat}

theorem mp_inv (h : RT g w (.mp s (some (sz, off, n, cap))) v) : ∃ b, g.φ s = some b ∧ v = .slice (some ⟨b, off, none⟩) n cap ∧ n ≤ cap ∧ cap ≤ maxLen := by
  cases h with
  | mp s b q x hφ hx =>
    cases hx with
    | sl sz off n cap h0 hm => exact ⟨b, hφ, rfl, h0, hm⟩

theorem lead_olen {t e s2 by_ : Nat} {x : Operand} (ho : o.op = .call { callee := .builtin .len, args := #[x], argTypes := #[t] }) (hdst : o.dst = some d) (hd : d < σ.n)
    (hx : ev σ x = .mp s (some (sz, off, n, cap))) (ht : aty P t = .slice e s2 by_) (h : K (σ.put d (.v (.int .i64 n)))) : Leads P σ o K := by
  intro ro m E a w K' Q' hr hK
  obtain ⟨g, h1, h2, h3⟩ := hr
  obtain ⟨hu, _, _⟩ := aty_slice ht
  have hR := ev_rt h2 x
  rw [hx] at hR
  obtain ⟨b, hφ, hv, _, _⟩ := mp_inv hR
  refine goes_wpIn (E := E) (σ' := σ.put d (.v (.int .i64 n))) (by simp [ho]) ⟨.int .i64 n, w, .inl ?_, ?_⟩ fun v w' hr' => hK _ _ _ h hr'
  · simp only [execOp, ho, Sem.run_bind, resolve, Sem.run_pure, Result.andThen_ok, invoke, builtin]
    simp [Builtin.len_, run_underlying hu, hv, goInt]
  · rw [hdst]
    exact ⟨g, h1, Tmps.cons h2 hd (.v _ _ (.int _ _)), h3⟩

theorem lead_oix {t e by_ : Nat} {x i : Operand} {k : IntKind} {j : Nat} (ho : o.op = .indexAddr t x i) (hdst : o.dst = some d) (hd : d < σ.n) (hx : ev σ x = .mp s (some (sz, off, n, cap)))
    (hi : (ev σ i).dat = some (.int k (j : Int))) (ht : aty P t = .slice e sz by_) (hz : sz ≠ 0) (hj : j < n) (h : K (σ.put d (.loc s (off + j * sz)))) : Leads P σ o K := by
  intro ro m E a w K' Q' hr hK
  obtain ⟨g, h1, h2, h3⟩ := hr
  obtain ⟨hu, hse, _⟩ := aty_slice ht
  have hR := ev_rt h2 x
  rw [hx] at hR
  obtain ⟨b, hφ, hv, _, _⟩ := mp_inv hR
  have vi := int_inv (datR h2 hi)
  refine goes_wpIn (E := E) (σ' := σ.put d (.loc s (off + j * sz))) (by simp [ho]) ⟨.pointer (some ⟨b, off + j * sz, none⟩), w, .inl ?_, ?_⟩ fun v w' hr' => hK _ _ _ h hr'
  · simp only [execOp, ho]
    refine runV ?_
    rw [hv, vi]
    simp only [Instr.indexAt, asIntOf, Sem.run_bind, Sem.run_pure, Result.andThen_ok, run_underlying hu]
    have hb : 0 ≤ (j : Int) ∧ (j : Int) < (n : Int) := ⟨by omega, by omega⟩
    simp [hb, run_sizeOf hse hz, add_none]
  · rw [hdst]
    exact ⟨g, h1, Tmps.cons h2 hd (.loc s _ b hφ), h3⟩

/-- A slice made anew, of the run's own. -/
def AS.newOwn (σ : AS) (d sz n cap : Nat) (cs : List TV) : AS := ⟨σ.n, (d, .mp d (some (sz, 0, n, cap))) :: killT d σ.t, (d, cs) :: killB d σ.b, killK d σ.k⟩
theorem newOwn_rel (h1 : Wf g w σ.b σ.k) (h2 : Tmps g w σ a) (h3 : Ext E.g E.w g w) (hd : d < σ.n) (hd' : d < 999999) {cs : List TV} {vs : Array Value} {e : TypeId} (hn : cs.length = vs.size)
    (hc : ∀ (j : Nat) c v, cs[j]? = some c → vs[j]? = some v → RT g w c v ∧ v.oneCell' = true) (hle : n ≤ cap) (hmax : cap ≤ maxLen) :
    Rel E (σ.newOwn d sz n cap (killL d cs)) (a.put (some d) (.slice (some ⟨w.heap.size, 0, none⟩) n cap)) (w.alloc (.cells vs e)) := by
  have hW := h1.new (s := d) (m := 0) (vs := vs) (e := e) (vr := true) (tk := false) (w1 := w) rfl (fun _ => rfl) (fun _ => rfl) (Nat.zero_le _) (fun j v hj => by omega)
  have hφ : (g.new w.heap.size d 0 vs true false).φ d = some w.heap.size := by simp [GS.new]
  refine ⟨g.new w.heap.size d 0 vs true false, ?_, ?_, h3.new h1 rfl rfl rfl rfl (by omega)⟩
  · exact
    { hW with
      box := fun t cs' ht => by
        simp only [AS.newOwn, get] at ht
        cases htd : t == d
        · simp only [htd, cond_false] at ht; exact hW.box t cs' ht
        · simp only [htd, cond_true, Option.some.injEq] at ht
          simp only [beq_iff_eq] at htd
          subst ht; subst htd
          refine ⟨w.heap.size, vs, e, hφ, heap_alloc_at w _, by simpa [killL_map] using hn, fun j c v hc' hv => ?_, fun o => hW.nφ _ _ o hφ⟩
          obtain ⟨c0, h0, rfl⟩ := getElem?_killL hc'
          have := hc j c0 v h0 hv
          exact ⟨this.1.new h1 rfl, this.2⟩ }
  · refine Tmps.cons (σ := σ) (ts := killT d σ.t) ?_ hd (.mp d _ _ _ hφ (.sl _ _ _ _ hle hmax))
    refine ⟨h2.1, h2.2.1, fun t y hy => ?_, by simp only [GS.new]; rw [if_neg (by omega)]; exact h2.2.2.2⟩
    simp only [get_killT] at hy
    cases hg : get t σ.t with
    | none => simp [hg] at hy
    | some z =>
      simp only [hg, Option.map_some, Option.some.injEq] at hy
      subst hy
      exact ⟨(h2.2.2.1 t z hg).1, (h2.2.2.1 t z hg).2.new h1 rfl⟩

/-- Cells of so many elements, all zero. -/
def zerosA (zs : List AV) : Nat → List AV
  | 0 => []
  | n + 1 => zs ++ zerosA zs n
theorem zerosA_len (zs : List AV) : ∀ n, (zerosA zs n).length = n * zs.length
  | 0 => by simp [zerosA]
  | n + 1 => by rw [zerosA, List.length_append, zerosA_len zs n, Nat.succ_mul]; omega
theorem zerosA_at (zs : List AV) : ∀ (n j : Nat), j < n * zs.length → (zerosA zs n)[j]? = zs[j % zs.length]?
  | 0, j, h => by simp at h
  | n + 1, j, h => by
    rw [zerosA]
    by_cases hj : j < zs.length
    · rw [List.getElem?_append_left hj, Nat.mod_eq_of_lt hj]
    · rw [List.getElem?_append_right (by omega), zerosA_at zs n (j - zs.length) (by rw [Nat.succ_mul] at h; omega), ← Nat.mod_eq_sub_mod (by omega)]

theorem killL_v (d : Nat) (cs : List AV) : killL d (cs.map .v) = cs.map .v := by
  rw [killL_map, List.map_map]; exact List.map_congr_left fun x _ => rfl

theorem lead_make {t e by_ : Nat} {x y : Operand} {k1 k2 : IntKind} {zs : List AV} (ho : o.op = .makeSlice t x y) (hdst : o.dst = some d) (hd : d < σ.n) (hd' : d < 999999)
    (hx : (ev σ x).dat = some (.int k1 (n : Int))) (hy : (ev σ y).dat = some (.int k2 (n : Int))) (ht : aty P t = .slice e sz by_) (hz : zeroC P e = some zs) (hz0 : sz ≠ 0) (hzs : zs.length = sz)
    (hb : n * by_ ≤ 281474976710656) (hm : n ≤ maxLen) (h : K (σ.newOwn d sz n n ((zerosA zs n).map .v))) : Leads P σ o K := by
  intro ro m E a w K' Q' hr hK
  obtain ⟨g, h1, h2, h3⟩ := hr
  obtain ⟨hu, hse, hby⟩ := aty_slice ht
  obtain ⟨i, hi, his⟩ := info_of_sz hse hz0
  have hib : i.bytes = by_ := by simpa [Program.bytesOf, hi] using hby
  obtain ⟨z, hzv, hzl⟩ := zeroC_info hz
  have hzi : i.zero = some z := by simpa [hi] using hzv
  obtain ⟨z', hz', hl', hmt⟩ := zeroC_match hz
  have vx := int_inv (datR h2 hx)
  have vy := int_inv (datR h2 hy)
  have hm' : (n : Int) ≤ 9223372036854775807 := by unfold maxLen at hm; omega
  have hrun := run_make (P := P) w t e i z hu hi hzi k1 k2 n n (by omega) (Int.le_refl _) (by
    have hq : ((by_ * n : Nat) : Int) ≤ 281474976710656 := by rw [Nat.mul_comm]; omega
    rw [Int.natCast_mul] at hq
    rw [hib]; exact hq) hm'
  simp only [Int.toNat_natCast, his] at hrun
  have hzz : z.cells.size = sz := by rw [hzl, hzs]
  have zmm : ∀ (j : Nat) c v, zs[j]? = some c → z.cells[j]? = some v → zmatch c v = true := by
    have e1 := hz' w
    have e2 : (zeroValue e).run P w = .ok z w := by simp only [zeroValue, Sem.run_bind, typeInfo]; simp [hi, hzi]
    rw [e1] at e2; cases e2
    exact hmt
  have := newOwn_rel (sz := sz) (n := n) (cap := n) (d := d) (σ := σ) (a := a) (E := E) h1 h2 h3 hd hd' (cs := (zerosA zs n).map .v) (vs := madeCells z.cells (n * sz)) (e := e) (by rw [List.length_map, zerosA_len, size_madeCells, hzs]) (fun j c v hc hv => by
    rw [List.getElem?_map] at hc
    have hj : j < n * sz := by have := (Array.getElem?_eq_some_iff.1 hv).1; rwa [size_madeCells] at this
    rw [zerosA_at zs n j (by rw [hzs]; exact hj), hzs] at hc
    simp only [madeCells, Array.getElem?_map, Array.getElem?_range, if_pos hj, Option.map_some, Option.some.injEq] at hv
    have hlt : j % sz < z.cells.size := by rw [hzz]; exact Nat.mod_lt _ (by omega)
    have hv' : z.cells[j % sz]? = some v := by rw [← hv, hzz]; simp [hlt]
    cases hcj : zs[j % sz]? with
    | none => simp [hcj] at hc
    | some c0 =>
      simp only [hcj, Option.map_some, Option.some.injEq] at hc
      subst hc
      have := zmatch_R (M := g.M) (zmm _ _ _ hcj hv')
      exact ⟨.v _ _ this.1, this.2⟩) (Nat.le_refl _) hm
  rw [killL_v] at this
  refine goes_wpIn (E := E) (σ' := σ.newOwn d sz n n ((zerosA zs n).map .v)) (by simp [ho]) ⟨_, _, .inl ?_, by rw [hdst]; exact this⟩ fun v w' hr' => hK _ _ _ h hr'
  simp only [execOp, ho]
  refine runV ?_
  rw [vx, vy]
  exact hrun

/-- Cells in a box of the run's own written anew. -/
theorem own_store (h1 : Wf g w σ.b σ.k) (h2 : Tmps g w σ a) (h3 : Ext E.g E.w g w) {cs : List TV} {nc : List AV} {us : List Value} {b : Nat} (hb : get s σ.b = some cs) (hle : off + nc.length ≤ cs.length) (hφ : g.φ s = some b)
    (u1 : nc.length = us.length) (u2 : ∀ (j : Nat) c v, nc[j]? = some c → us[j]? = some v → R g.M c v ∧ v.oneCell' = true) :
    ∃ w', (storeCells ⟨b, off, none⟩ us).run P w = .ok () w' ∧ Rel E ⟨σ.n, σ.t, setB s (cs.take off ++ nc.map .v ++ cs.drop (off + nc.length)) σ.b, σ.k⟩ a w' := by
  obtain ⟨b', w', hv, hst, hrel⟩ := store_rel (P := P) (E := E) (σ := σ) (a := a) h1 h2 h3 (nc := nc.map TV.v) (u := .agg us.toArray) (off := off) hb (by simpa using hle) (by simpa [Value.cells] using u1) (fun j c v hc hv => by
    rw [List.getElem?_map] at hc
    cases hcj : nc[j]? with
    | none => simp [hcj] at hc
    | some c0 =>
      simp only [hcj, Option.map_some, Option.some.injEq] at hc
      subst hc
      have := u2 j c0 v hcj (by simpa [Value.cells] using hv)
      exact ⟨.v _ _ this.1, this.2⟩) (.loc s off b hφ)
  cases hv
  refine ⟨w', by simpa [Value.cells] using hst, by simpa using hrel⟩

theorem zeroCells_at {z : Array Value} {n j : Nat} {v : Value} (hj : j < n * z.size) (hv : (Builtin.zeroCells z n).toList[j]? = some v) : z[j % z.size]? = some v := by
  have hpos : 0 < z.size := Nat.pos_of_ne_zero fun h => by rw [h] at hj; omega
  have hlt : j % z.size < z.size := Nat.mod_lt _ hpos
  rw [Array.getElem?_toList] at hv
  simp only [Builtin.zeroCells, Array.getElem?_map, Array.getElem?_range] at hv
  rw [if_pos hj] at hv
  simp only [Option.map_some, Option.some.injEq] at hv
  rw [← hv]; simp [hlt]
theorem lead_clear {t e by_ : Nat} {x : Operand} {cs : List TV} {zs : List AV} (ho : o.op = .call { callee := .builtin .clear, args := #[x], argTypes := #[t] }) (hdst : o.dst = none) (hx : ev σ x = .mp s (some (sz, off, n, cap)))
    (hb : get s σ.b = some cs) (ht : aty P t = .slice e sz by_) (hz : zeroC P e = some zs) (hzs : zs.length = sz) (hle : off + n * sz ≤ cs.length)
    (h : K ⟨σ.n, σ.t, setB s (cs.take off ++ (zerosA zs n).map .v ++ cs.drop (off + n * sz)) σ.b, σ.k⟩) : Leads P σ o K := by
  intro ro m E a w K' Q' hr hK
  have hr0 := hr
  obtain ⟨g, h1, h2, h3⟩ := hr
  obtain ⟨hu, hse, hby⟩ := aty_slice ht
  have hR := ev_rt h2 x
  rw [hx] at hR
  obtain ⟨b, hφ, hv, _, _⟩ := mp_inv hR
  obtain ⟨z, hzv, hzl, hmt⟩ := zeroC_match hz
  have hsz : (Builtin.zeroCells z.cells n).toList.length = n * sz := by simp [size_zeroCells, ← hzl, hzs]
  obtain ⟨w', hst, hrel⟩ := own_store (P := P) (E := E) (σ := σ) (a := a) (off := off) (nc := zerosA zs n) (us := (Builtin.zeroCells z.cells n).toList) h1 h2 h3 hb (by rw [zerosA_len, hzs]; exact hle) hφ (by rw [zerosA_len, hsz, hzs]) (fun j c v hc hv => by
    have hj : j < n * zs.length := by have := (List.getElem?_eq_some_iff.1 hc).1; rwa [zerosA_len] at this
    rw [zerosA_at zs n j hj] at hc
    have hv' : z.cells[j % zs.length]? = some v := by
      rw [hzl] at hj ⊢
      exact zeroCells_at hj hv
    have := zmatch_R (M := g.M) (hmt _ _ _ hc hv')
    exact this)
  rw [zerosA_len, hzs] at hrel
  refine goes_wpIn (E := E) (σ' := ⟨σ.n, σ.t, setB s (cs.take off ++ (zerosA zs n).map .v ++ cs.drop (off + n * sz)) σ.b, σ.k⟩) (by simp [ho]) ⟨.tuple #[], w', .inl ?_, by rw [hdst]; exact hrel⟩ fun v w' hr' => hK _ _ _ h hr'
  simp only [execOp, ho, Sem.run_bind, resolve, Sem.run_pure, Result.andThen_ok, invoke, builtin]
  cases n with
  | zero =>
    have : w' = w := by
      have hz0 : (Builtin.zeroCells z.cells 0).toList = [] := List.eq_nil_of_length_eq_zero (by rw [hsz]; simp)
      rw [hz0] at hst
      simpa [storeCells] using hst.symm
    subst this
    simp [Builtin.clear_, run_underlying hu, hv]
  | succ n =>
    simp [Builtin.clear_, run_underlying hu, hv, hzv, hst]
theorem flat_take {sz : Nat} (ys : List AV) (hs : ∀ y ∈ ys, y.cells.length = sz) : ∀ m, flat (ys.take m) = (flat ys).take (m * sz) := by
  intro m
  have h1 : flat ys = flat (ys.take m) ++ flat (ys.drop m) := by rw [← flat_append, List.take_append_drop]
  have h2 := flat_length (ys.take m) (fun y hy => hs y (List.mem_of_mem_take hy))
  by_cases hm : m ≤ ys.length
  · have hl : (ys.take m).length = m := by rw [List.length_take]; omega
    rw [hl] at h2
    rw [h1, ← h2, List.take_left]
  · rw [List.take_of_length_le (by omega)]
    have h3 := flat_length ys hs
    rw [List.take_of_length_le (by rw [h3]; exact Nat.mul_le_mul_right _ (by omega))]

theorem lead_copy {t t2 e by_ : Nat} {x y : Operand} {cs : List TV} {ys : List AV} (ho : o.op = .call { callee := .builtin .copy, args := #[x, y], argTypes := #[t, t2] }) (hdst : o.dst = some d) (hd : d < σ.n) (hx : ev σ x = .mp s (some (sz, off, n, cap)))
    (hb : get s σ.b = some cs) (hy : (ev σ y).dat = some (.sl sz ys)) (ht : aty P t = .slice e sz by_) (hz0 : sz ≠ 0) (hle : off + n * sz ≤ cs.length)
    (h : K ((⟨σ.n, σ.t, setB s (cs.take off ++ (flat (ys.take n)).map .v ++ cs.drop (off + (min ys.length n) * sz)) σ.b, σ.k⟩ : AS).put d (.v (.int .i64 ((min ys.length n : Nat) : Int))))) : Leads P σ o K := by
  intro ro m E a w K' Q' hr hK
  obtain ⟨g, h1, h2, h3⟩ := hr
  obtain ⟨hu, hse, hby⟩ := aty_slice ht
  have hR := ev_rt h2 x
  rw [hx] at hR
  obtain ⟨b, hφ, hv, _, _⟩ := mp_inv hR
  have hRy := datR h2 hy
  obtain ⟨us, hlen, hcells, hul, hur, hys⟩ : ∃ us : List Value, (Builtin.lenOf (a.eval y)).run P w = .ok ys.length w ∧ (Builtin.firstCells sz (min ys.length n) (a.eval y)).run P w = .ok us.toArray w ∧ us.length = (min ys.length n) * sz ∧
      (∀ (j : Nat) c v, (flat (ys.take n))[j]? = some c → us[j]? = some v → R g.M c v ∧ v.oneCell' = true) ∧ (flat (ys.take n)).length = (min ys.length n) * sz := by
    rcases sl_inv hRy with ⟨rfl, a0, cap', hv', hmax, hnn⟩ | ⟨b', off', cap', vs, hv', hle', hmax, hs, hM, hRv⟩
    · refine ⟨[], by rw [hv']; simp [Builtin.lenOf], ?_, by simp, fun j c v hc => by simp [flat] at hc, by simp [flat]⟩
      rw [hv']
      cases a0 with
      | none => exact run_firstCells_none w sz _ _ _
      | some a0 => exact run_firstCells_some (P := P) w sz 0 a0 _ _ [] (by simp) (fun j v hj => by simp at hj)
    · have hfl := flat_length (ys.take n) (fun y hy => hs y (List.mem_of_mem_take hy))
      have hmin : (ys.take n).length = min ys.length n := by rw [List.length_take, Nat.min_comm]
      rw [hmin] at hfl
      have hat : ∀ (j : Nat) c, (flat (ys.take n))[j]? = some c → (flat ys)[j]? = some c := fun j c hc => by
        rw [flat_take ys hs, List.getElem?_take] at hc
        split at hc
        · exact hc
        · cases hc
      refine ⟨(List.range ((min ys.length n) * sz)).map vs, by rw [hv']; simp [Builtin.lenOf], ?_, by simp, fun j c v hc hv => ?_, hfl⟩
      · rw [hv']
        refine run_firstCells_some (P := P) w sz _ ⟨b', off', none⟩ _ _ _ (by simp) (fun j v hj => ?_)
        rw [List.getElem?_map] at hj
        have hjl : j < (min ys.length n) * sz := by
          rcases Nat.lt_or_ge j ((min ys.length n) * sz) with h | h
          · exact h
          · rw [List.getElem?_eq_none (by simpa using h)] at hj; simp at hj
        rw [List.getElem?_range hjl] at hj
        simp only [Option.map_some, Option.some.injEq] at hj
        have hc : ∃ c, (flat (ys.take n))[j]? = some c := ⟨_, List.getElem?_eq_getElem (by omega)⟩
        obtain ⟨c, hc⟩ := hc
        rw [add_none, ← hj]
        exact (h1.mem _ _ _ (hM j c (hat j c hc))).1
      · have hjl : j < (min ys.length n) * sz := by have := (List.getElem?_eq_some_iff.1 hc).1; omega
        rw [List.getElem?_map, List.getElem?_range hjl] at hv
        simp only [Option.map_some, Option.some.injEq] at hv
        rw [← hv]
        exact ⟨hRv j c (hat j c hc), (h1.mem _ _ _ (hM j c (hat j c hc))).2⟩
  have hmn : (min ys.length n) * sz ≤ n * sz := Nat.mul_le_mul_right _ (Nat.min_le_right _ _)
  obtain ⟨w', hst, hrel⟩ := own_store (P := P) (E := E) (σ := σ) (a := a) (off := off) (nc := flat (ys.take n)) (us := us) h1 h2 h3 hb (by rw [hys]; omega) hφ (by rw [hys, hul]) hur
  rw [hys] at hrel
  refine goes_wpIn (E := E) (σ' := (⟨σ.n, σ.t, setB s (cs.take off ++ (flat (ys.take n)).map .v ++ cs.drop (off + (min ys.length n) * sz)) σ.b, σ.k⟩ : AS).put d (.v (.int .i64 ((min ys.length n : Nat) : Int)))) (by simp [ho])
    ⟨.int .i64 ((min ys.length n : Nat) : Int), w', .inl ?_, by rw [hdst]; exact hrel.put hd fun g _ _ => .v _ _ (.int _ _)⟩ fun v w' hr' => hK _ _ _ h hr'
  simp only [execOp, ho, Sem.run_bind, resolve, Sem.run_pure, Result.andThen_ok, invoke, builtin]
  have hnm : Nat.min ys.length n = min ys.length n := rfl
  simp [Builtin.copy_, run_underlying hu, hv, hlen, run_sizeOf hse hz0, hnm, hcells, hst, goInt]
end
end Go.Proofs.Ytekdlkjonihglaa.AL
