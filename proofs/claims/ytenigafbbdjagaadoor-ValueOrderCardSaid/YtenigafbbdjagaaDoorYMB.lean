/- An abstract program logic: merged texts. -/
import Derived.Test.YtenigafbbdjagaaDoorYMA
import Derived.RangeFuncNested
import Derived.RangeFuncLeaves
/- Operations that write memory of the run's own: new variables, stores, slices made and appended to. -/
namespace Go.Proofs.YtenigafbbdjagaaDoor.AL
open Go Go.RowKit
set_option linter.unusedVariables false
set_option linter.unusedSimpArgs false

def AS.put (σ : AS) (d : Nat) (x : TV) : AS := ⟨σ.n, (d, x) :: σ.t, σ.b, σ.k⟩
def AS.newBox (σ : AS) (d : Nat) (cs : List TV) : AS := ⟨σ.n, (d, .loc d 0) :: killT d σ.t, (d, cs) :: killB d σ.b, killK d σ.k⟩
def AS.newTok (σ : AS) (d sz : Nat) (xs : List AV) : AS := ⟨σ.n, (d, .ap sz xs d) :: killT d σ.t, killB d σ.b, d :: killK d σ.k⟩

section
variable {P : Program} {E : E0} {g : GS} {w w' : World} {σ : AS} {a : Act} {o : Oper} {d : Nat} {x : TV} {v : Value}

theorem getD_put (ts : Array Value) (d t : Nat) (v : Value) (hd : d < ts.size) : (ts.setIfInBounds d v).getD t undef = if t = d then v else ts.getD t undef := by
  simp only [Array.getD_eq_getD_getElem?, Array.getElem?_setIfInBounds]
  by_cases h : d = t
  · subst h; simp [hd]
  · rw [if_neg h, if_neg (fun e => h e.symm)]

theorem Tmps.cons {ts : List (Nat × TV)} {b : List (Nat × List TV)} {k : List Nat} (h : Tmps g w ⟨σ.n, ts, b, k⟩ a) (hd : d < σ.n) (hx : RT g w x v) : Tmps g w ⟨σ.n, (d, x) :: ts, b, k⟩ (a.put (some d) v) := by
  refine ⟨h.1, by simpa [Act.put] using h.2.1, fun t y hy => ?_, h.2.2.2⟩
  simp only [get] at hy
  have hsz : d < a.tmps.size := by have := h.2.1; simp only at this; omega
  simp only [Act.put]
  rw [getD_put _ _ _ _ hsz]
  cases ht : t == d
  · simp only [ht, cond_false] at hy
    simp only [beq_eq_false_iff_ne] at ht
    rw [if_neg ht]
    exact h.2.2.1 t y hy
  · simp only [ht, cond_true, Option.some.injEq] at hy
    simp only [beq_iff_eq] at ht
    subst hy
    rw [if_pos ht]
    exact ⟨by rw [ht]; exact hd, hx⟩

theorem Rel.put (h : Rel E σ a w) (hd : d < σ.n) (hx : ∀ g, Wf g w σ.b σ.k → Tmps g w σ a → RT g w x v) : Rel E (σ.put d x) (a.put (some d) v) w := by
  obtain ⟨g, h1, h2, h3⟩ := h
  exact ⟨g, h1, Tmps.cons h2 hd (hx g h1 h2), h3⟩

theorem Tmps.heap (h : Tmps g w σ a) (e : w'.heap = w.heap) : Tmps g w' σ a :=
  ⟨h.1, h.2.1, fun t x hx => ⟨(h.2.2.1 t x hx).1, (h.2.2.1 t x hx).2.heap e⟩, h.2.2.2⟩

/-- A new variable. -/
theorem newBox_rel (h1 : Wf g w σ.b σ.k) (h2 : Tmps g w σ a) (h3 : Ext E.g E.w g w) (hd : d < σ.n) (hd' : d < 999999) {cs : List TV} {vs : Array Value} {e : TypeId} (hn : cs.length = vs.size)
    (hc : ∀ (j : Nat) c v, cs[j]? = some c → vs[j]? = some v → RT g w c v ∧ v.oneCell' = true) :
    Rel E (σ.newBox d (killL d cs)) (a.put (some d) (.pointer (some ⟨w.heap.size, 0, none⟩))) (w.alloc (.cells vs e)) := by
  have hW := h1.new (s := d) (m := 0) (vs := vs) (e := e) (vr := true) (tk := false) (w1 := w) rfl (fun _ => rfl) (fun _ => rfl) (Nat.zero_le _) (fun j v hj => by omega)
  have hφ : (g.new w.heap.size d 0 vs true false).φ d = some w.heap.size := by simp [GS.new]
  refine ⟨g.new w.heap.size d 0 vs true false, ?_, ?_, h3.new h1 rfl rfl rfl rfl (by omega)⟩
  · exact
    { hW with
      box := fun t cs' ht => by
        simp only [AS.newBox, get] at ht
        cases htd : t == d
        · simp only [htd, cond_false] at ht; exact hW.box t cs' ht
        · simp only [htd, cond_true, Option.some.injEq] at ht
          simp only [beq_iff_eq] at htd
          subst ht; subst htd
          refine ⟨w.heap.size, vs, e, hφ, heap_alloc_at w _, by simpa [killL_map] using hn, fun j c v hc' hv => ?_, fun o => hW.nφ _ _ o hφ⟩
          obtain ⟨c0, h0, rfl⟩ := getElem?_killL hc'
          have := hc j c0 v h0 hv
          exact ⟨this.1.new h1 rfl, this.2⟩ }
  · refine Tmps.cons (σ := σ) (ts := killT d σ.t) ?_ hd (.loc d 0 _ hφ)
    refine ⟨h2.1, h2.2.1, fun t y hy => ?_, by simp only [GS.new]; rw [if_neg (by omega)]; exact h2.2.2.2⟩
    simp only [get_killT] at hy
    cases hg : get t σ.t with
    | none => simp [hg] at hy
    | some z =>
      simp only [hg, Option.map_some, Option.some.injEq] at hy
      subst hy
      exact ⟨(h2.2.2.1 t z hg).1, (h2.2.2.1 t z hg).2.new h1 rfl⟩

/-- A new slice, whose row is its own. -/
theorem newTok_rel (h1 : Wf g w σ.b σ.k) (h2 : Tmps g w σ a) (h3 : Ext E.g E.w g w) (hh : w'.heap = w.heap) (hos : w'.os = w.os) (htp : w'.tape = w.tape) (hou : w'.output = w.output) (hd : d < σ.n) (hd' : d < 999999) {sz cap : Nat} {xs : List AV} {vs : Array Value} {e : TypeId}
    (hle : xs.length ≤ cap) (hmax : cap ≤ maxLen) (hsz : vs.size = cap * sz) (hs : ∀ x ∈ xs, x.cells.length = sz)
    (hc : ∀ (j : Nat) c, (flat xs)[j]? = some c → ∃ v, vs[j]? = some v ∧ R g.M c v ∧ v.oneCell' = true) :
    Rel E (σ.newTok d sz xs) (a.put (some d) (.slice (some ⟨w.heap.size, 0, none⟩) xs.length cap)) (w'.alloc (.cells vs e)) := by
  have hflat : (flat xs).length = xs.length * sz := by
    clear hc hle
    induction xs with
    | nil => simp [flat]
    | cons x xs ih =>
      simp only [flat, List.flatMap_cons, List.length_append, List.length_cons]
      have := ih (fun y hy => hs y (by simp [hy]))
      simp only [flat] at this
      rw [this, hs x (by simp), Nat.succ_mul]; omega
  have hm : xs.length * sz ≤ vs.size := by rw [hsz]; exact Nat.mul_le_mul_right _ hle
  have hat : ∀ j, j < xs.length * sz → ∃ c, (flat xs)[j]? = some c := fun j hj => ⟨(flat xs)[j]'(by omega), List.getElem?_eq_getElem _⟩
  have hW := h1.new (s := d) (m := xs.length * sz) (vs := vs) (e := e) (vr := false) (tk := true) (w1 := w') hh (fun q => by cases q) (fun q => by cases q) hm (fun j v hj hv => by
    obtain ⟨c, hcj⟩ := hat j hj
    obtain ⟨v', h1', h2', h3'⟩ := hc j c hcj
    rw [h1'] at hv; cases hv; exact h3')
  have hκ : (g.new w.heap.size d (xs.length * sz) vs false true).κ d = some (some w.heap.size) := by simp [GS.new]
  have hML : MLe g.M (g.new w.heap.size d (xs.length * sz) vs false true).M := memAdd_le fun o _ => mem_new h1 o
  refine ⟨g.new w.heap.size d (xs.length * sz) vs false true, ?_, ?_, h3.new h1 hh hos htp hou (by omega)⟩
  · refine { hW with live := fun t ht => ?_ }
    simp only [AS.newTok, List.mem_cons] at ht
    rcases ht with rfl | ht
    · rw [hκ]; simp
    · exact hW.live t ht
  · refine Tmps.cons (σ := σ) (ts := killT d σ.t) ?_ hd ?_
    · refine ⟨h2.1, h2.2.1, fun t y hy => ?_, by simp only [GS.new]; rw [if_neg (by omega)]; exact h2.2.2.2⟩
      simp only [get_killT] at hy
      cases hg : get t σ.t with
      | none => simp [hg] at hy
      | some z =>
        simp only [hg, Option.map_some, Option.some.injEq] at hy
        subst hy
        exact ⟨(h2.2.2.1 t z hg).1, (h2.2.2.1 t z hg).2.new h1 hh⟩
    · refine .ap sz xs d _ (.sl _ 0 sz xs _ cap (fun j => vs.getD j undef) rfl hle hmax hs (fun j c hj => ?_) (fun j c hj => ?_)) fun ob hob => ?_
      · have hlt : j < xs.length * sz := by rw [← hflat]; exact (List.getElem?_eq_some_iff.1 hj).1
        obtain ⟨v, q1, _⟩ := hc j c hj
        simp [GS.new, memAdd, hlt, q1, Array.getD_eq_getD_getElem?]
      · obtain ⟨v, q1, q2, _⟩ := hc j c hj
        simp only [Array.getD_eq_getD_getElem?, q1, Option.getD_some]
        exact q2.mono hML
      · rw [hκ] at hob; cases hob
        refine ⟨cap, vs, e, rfl, ?_, hsz, fun o ho => ?_⟩
        · rw [← hh]; exact heap_alloc_at w' _
        · simp only [GS.new, memAdd]; rw [if_neg (by omega)]; exact mem_new h1 o

/-- A token is used up. -/
theorem Rel.dropK (h : Rel E σ a w) (s : Nat) (hs : s < 999999) : Rel E ⟨σ.n, σ.t, σ.b, killK s σ.k⟩ a w := by
  obtain ⟨g, h1, h2, h3⟩ := h
  refine ⟨g.dropK s, h1.dropK s, ⟨h2.1, h2.2.1, fun t x hx => ⟨(h2.2.2.1 t x hx).1, (h2.2.2.1 t x hx).2.dropK⟩, ?_⟩, h3.dropK s⟩
  simp only [GS.dropK]; rw [if_neg (by omega)]; exact h2.2.2.2
end
end Go.Proofs.YtenigafbbdjagaaDoor.AL

/- Stores, slices made, appends. -/
namespace Go.Proofs.YtenigafbbdjagaaDoor.AL
open Go Go.RowKit
set_option linter.unusedVariables false
set_option linter.unusedSimpArgs false

def tcells : TV → Option (List TV)
  | .v a => some (a.cells.map .v)
  | .undef => none
  | .tup _ => none
  | .it _ _ _ => none
  | x => some [x]

section
variable {P : Program} {E : E0} {g : GS} {w w' : World} {σ : AS} {a : Act} {o : Oper} {d : Nat} {x : TV} {v : Value} {M : Mem}

theorem tcells_ok {cs : List TV} (h : RT g w x v) (hc : tcells x = some cs) : cs.length = v.cells.size ∧ ∀ (j : Nat) c u, cs[j]? = some c → v.cells[j]? = some u → RT g w c u ∧ u.oneCell' = true := by
  have one : ∀ (y : TV) (u : Value), u.cells = #[u] → u.oneCell' = true → RT g w y u → [y].length = u.cells.size ∧ ∀ (j : Nat) c z, [y][j]? = some c → u.cells[j]? = some z → RT g w c z ∧ z.oneCell' = true := fun y u h1 h2 h3 => by
    rw [h1]
    refine ⟨rfl, fun j c z hj hz => ?_⟩
    cases j with
    | zero => simp at hj hz; subst hj; subst hz; exact ⟨h3, h2⟩
    | succ j => simp at hj
  have h' := h
  cases h with
  | undef v => simp [tcells] at hc
  | v b u hb =>
    simp only [tcells, Option.some.injEq] at hc
    subst hc
    obtain ⟨q1, q2⟩ := cells_of hb
    refine ⟨by simpa using q1, fun j c u' hj hu => ?_⟩
    rw [List.getElem?_map] at hj
    cases hbj : b.cells[j]? with
    | none => simp [hbj] at hj
    | some y =>
      simp only [hbj, Option.map_some, Option.some.injEq] at hj
      subst hj
      exact ⟨.v _ _ (q2 j y u' hbj hu).1, (q2 j y u' hbj hu).2⟩
  | loc s off b hφ => simp only [tcells, Option.some.injEq] at hc; subst hc; exact one _ _ rfl rfl h'
  | ap sz xs s u hR hk =>
    simp only [tcells, Option.some.injEq] at hc; subst hc
    have : v.cells = #[v] ∧ v.oneCell' = true := by
      rcases sl_inv hR with ⟨_, _, _, rfl, _⟩ | ⟨b, off, cap, vs, rfl, _⟩ <;> exact ⟨rfl, rfl⟩
    exact one _ _ this.1 this.2 h'
  | fn f cs' vs hn hR => simp only [tcells, Option.some.injEq] at hc; subst hc; exact one _ _ rfl rfl h'
  | tup cs' vs hn hR => simp [tcells] at hc
  | it s str pos x hk => simp [tcells] at hc
  | mp s b q x hφ hx =>
    simp only [tcells, Option.some.injEq] at hc; subst hc
    cases hx with
    | map => exact one _ _ rfl rfl h'
    | sl sz off n cap h0 hm => exact one _ _ rfl rfl h'

theorem flat_length {sz : Nat} : ∀ (xs : List AV), (∀ x ∈ xs, x.cells.length = sz) → (flat xs).length = xs.length * sz
  | [], _ => by simp [flat]
  | x :: xs, h => by
    have ih := flat_length xs (fun y hy => h y (by simp [hy]))
    simp only [flat, List.flatMap_cons, List.length_append, List.length_cons] at ih ⊢
    rw [ih, h x (by simp), Nat.succ_mul]; omega

theorem flat_append (xs ys : List AV) : flat (xs ++ ys) = flat xs ++ flat ys := by simp [flat]

/-- A store into a variable of the run's own. -/
theorem store_rel (h1 : Wf g w σ.b σ.k) (h2 : Tmps g w σ a) (h3 : Ext E.g E.w g w) {s off : Nat} {cs nc : List TV} {u : Value} (hb : get s σ.b = some cs) (hle : off + nc.length ≤ cs.length)
    (u1 : nc.length = u.cells.size) (u2 : ∀ (j : Nat) c v, nc[j]? = some c → u.cells[j]? = some v → RT g w c v ∧ v.oneCell' = true) (hl : RT g w (.loc s off) v) :
    ∃ b w', v = .pointer (some ⟨b, off, none⟩) ∧ (storeCells ⟨b, off, none⟩ u.cells.toList).run P w = .ok () w' ∧ Rel E ⟨σ.n, σ.t, setB s (cs.take off ++ nc ++ cs.drop (off + nc.length)) σ.b, σ.k⟩ a w' := by
  obtain ⟨b, rfl, hφ⟩ := loc_inv hl
  obtain ⟨b', vs, e, q1, q2, q3, q4, q5⟩ := h1.box s cs hb
  rw [hφ] at q1; cases q1
  have hst := run_storeCells_at P b off e u.cells.toList 0 vs w q2 (by simp; omega) (fun v hv => by
    obtain ⟨j, hj, rfl⟩ := List.getElem_of_mem hv
    have hj' : j < nc.length := by rw [u1]; simpa using hj
    exact (u2 j (nc[j]'hj') _ (List.getElem?_eq_getElem _) (by simp at hj; simp [hj])).2)
  refine ⟨b, _, rfl, hst, g, ?_, ?_, h3.row (.inl ⟨s, hφ⟩) _⟩
  · refine h1.store hφ q2 ?_ ?_
    · simp; omega
    · intro j c v hc hv
      simp only [Nat.add_zero, List.getElem?_toArray] at hv
      rw [List.append_assoc, List.getElem?_append] at hc hv
      simp only [List.length_take, Array.length_toList] at hc hv
      rw [show min off cs.length = off by omega] at hc
      rw [show min off vs.size = off by omega] at hv
      split at hc
      · rename_i hj
        rw [if_pos hj, List.getElem?_take, if_pos hj] at hv
        rw [List.getElem?_take, if_pos hj] at hc
        exact q4 j c v hc (by simpa using hv)
      · rename_i hj
        rw [if_neg hj] at hv
        rw [List.getElem?_append] at hc hv
        simp only [Array.length_toList] at hv
        rw [← u1] at hv
        split at hc
        · rename_i hj2
          rw [if_pos hj2] at hv
          exact u2 _ c v hc (by simpa using hv)
        · rename_i hj2
          rw [if_neg hj2] at hv
          rw [List.getElem?_drop] at hc hv
          exact q4 _ c v hc (by simpa using hv)
  · exact ⟨h2.1, h2.2.1, fun t y hy => ⟨(h2.2.2.1 t y hy).1, (h2.2.2.1 t y hy).2.store h1 hφ _⟩, h2.2.2.2⟩

/-- A nil slice that may be appended to. -/
def GS.nilTok (g : GS) (d : Nat) : GS := { g with φ := fun t => if t = d then none else g.φ t, κ := fun t => if t = d then some none else g.κ t }

theorem Rel.nilTok (h : Rel E σ a w) (hd : d < σ.n) (hd' : d < 999999) (sz : Nat) : Rel E (σ.newTok d sz []) (a.put (some d) (.slice none 0 0)) w := by
  obtain ⟨g, h1, h2, h3⟩ := h
  have kφ : ∀ {t c}, (g.nilTok d).φ t = some c → t ≠ d ∧ g.φ t = some c := fun {t c} ht => by simp only [GS.nilTok] at ht; split at ht <;> simp_all
  have kκ : ∀ {t c}, (g.nilTok d).κ t = some (some c) → t ≠ d ∧ g.κ t = some (some c) := fun {t c} ht => by simp only [GS.nilTok] at ht; split at ht <;> simp_all
  have keep : ∀ {y : TV} {u : Value}, RT g w y u → RT (g.nilTok d) w (y.kill d) u := fun {y u} hy =>
    RT.keepK (g := g) (g' := g.nilTok d) (w := w) (fun _ _ _ h => h) (fun t b ht hb => by simp [GS.nilTok, ht, hb]) (fun t ob ht hob => ⟨by simpa [GS.nilTok, ht] using hob, fun _ _ => ⟨rfl, fun _ h => h⟩⟩) hy
  refine ⟨g.nilTok d, ?_, ?_, ?_⟩
  · exact
    { mem := h1.mem
      box := fun t cs' ht => by
        obtain ⟨e1, cs, e2, rfl⟩ := get_killB d t σ.b cs' ht
        obtain ⟨b, vs, e, q1, q2, q3, q4, q5⟩ := h1.box t cs e2
        refine ⟨b, vs, e, by simp [GS.nilTok, e1, q1], q2, by simpa using q3, fun j c v hc hv => ?_, q5⟩
        rw [← killL_map] at hc
        obtain ⟨c0, h0, rfl⟩ := getElem?_killL hc
        exact ⟨keep (q4 j c0 v h0 hv).1, (q4 j c0 v h0 hv).2⟩
      ij := fun t t' b ht ht' => h1.ij t t' b (kφ ht).2 (kφ ht').2
      ik := fun t t' b ht ht' => h1.ik t t' b (kκ ht).2 (kκ ht').2
      ap := fun t t' b ht ht' => h1.ap t t' b (kφ ht).2 (kκ ht').2
      ltφ := fun t b ht => h1.ltφ t b (kφ ht).2
      ltκ := fun t b ht => h1.ltκ t b (kκ ht).2
      nφ := fun t b o ht => h1.nφ t b o (kφ ht).2
      live := fun t ht => by
        simp only [AS.newTok, List.mem_cons] at ht
        rcases ht with rfl | ht
        · simp [GS.nilTok]
        · obtain ⟨e1, e2⟩ := mem_killK d t σ.k ht
          simpa [GS.nilTok, e1] using h1.live t e2
      dfr := h1.dfr
      dnd := h1.dnd
      dX := fun j hj hx => h1.dX j hj (by
        rcases hx with ⟨t, ht⟩ | ⟨t, ht⟩
        · exact .inl ⟨t, (kφ ht).2⟩
        · exact .inr ⟨t, (kκ ht).2⟩) }
  · refine Tmps.cons (σ := σ) (ts := killT d σ.t) ?_ hd ?_
    · refine ⟨h2.1, h2.2.1, fun t y hy => ?_, by simp only [GS.nilTok]; rw [if_neg (by omega)]; exact h2.2.2.2⟩
      simp only [get_killT] at hy
      cases hg : get t σ.t with
      | none => simp [hg] at hy
      | some z =>
        simp only [hg, Option.map_some, Option.some.injEq] at hy
        subst hy
        exact ⟨(h2.2.2.1 t z hg).1, keep (h2.2.2.1 t z hg).2⟩
    · exact .ap sz [] d _ (.slN sz) fun ob hob => by simp only [GS.nilTok, if_true] at hob; cases hob; rfl
  · exact
    { h3 with
      φ := fun t b ht hb => by simp only [GS.nilTok]; rw [if_neg (by omega)]; exact h3.φ t b ht hb
      φn := fun t b hb => h3.φn t b (kφ hb).2
      κn := fun t b hb => h3.κn t b (kκ hb).2 }

/-- What is appended. -/
theorem src_sl (hw : ∀ b o v, M b o = some v → w.cell? ⟨b, o, none⟩ = some v ∧ v.oneCell' = true) {tx e' : TypeId} (hk : P.underlying tx = some (.slice e')) {sz : Nat} {ys : List AV} {u : Value} (h : R M (.sl sz ys) u) :
    (∀ y ∈ ys, y.cells.length = sz) ∧ ∃ news, Src P sz tx u ys.length news w ∧ ∀ (j : Nat) c, (flat ys)[j]? = some c → ∃ v, news[j]? = some v ∧ R M c v ∧ v.oneCell' = true := by
  rcases sl_inv h with ⟨rfl, a0, cap, rfl, hmax, hnn⟩ | ⟨b, off, cap, vs, rfl, _, _, hs, hM, hR⟩
  · cases a0 with
    | none =>
      obtain rfl := hnn rfl
      exact ⟨fun y hy => (by cases hy), [], Src.ofNil w hk 0, fun j c hc => (by simp [flat] at hc)⟩
    | some a0 =>
      exact ⟨fun y hy => (by cases hy), [], Src.ofSlice w hk a0 0 cap _ (by simp) (fun j u hu => by simp at hu) (fun u hu => by cases hu), fun j c hc => (by simp [flat] at hc)⟩
  · refine ⟨hs, (List.range (flat ys).length).map vs, Src.ofSlice w hk ⟨b, off, none⟩ ys.length cap _ (by simp [flat_length ys hs]) (fun j u hu => ?_) (fun u hu => ?_), fun j c hc => ?_⟩
    · rw [List.getElem?_map] at hu
      by_cases hj : j < (flat ys).length
      · rw [List.getElem?_range hj] at hu
        simp only [Option.map_some, Option.some.injEq] at hu
        subst hu
        rw [add_none]
        exact (hw b (off + j) _ (hM j _ (List.getElem?_eq_getElem hj))).1
      · rw [List.getElem?_eq_none (by simp; omega)] at hu; simp at hu
    · obtain ⟨j, hj, rfl⟩ := List.mem_map.1 hu
      simp only [List.mem_range] at hj
      exact (hw b (off + j) _ (hM j _ (List.getElem?_eq_getElem hj))).2
    · have hj : j < (flat ys).length := (List.getElem?_eq_some_iff.1 hc).1
      exact ⟨vs j, by rw [List.getElem?_map, List.getElem?_range hj]; rfl, hR j c hc, (hw b (off + j) _ (hM j c hc)).2⟩

def byteAs (s : List UInt8) : List AV := s.map fun b => .int .u8 b.toNat
theorem flat_bytes (s : List UInt8) : flat (byteAs s) = byteAs s := by
  induction s with
  | nil => rfl
  | cons b s ih => simp only [byteAs, flat, List.map_cons, List.flatMap_cons, AV.cells] at ih ⊢; rw [ih]; rfl
theorem src_str {tx : TypeId} (hk : P.underlying tx = some .string) (s : List UInt8) : (∀ y ∈ byteAs s, y.cells.length = 1) ∧ ∃ news, Src P 1 tx (.string ⟨s.toArray⟩) (byteAs s).length news w ∧
    ∀ (j : Nat) c, (flat (byteAs s))[j]? = some c → ∃ v, news[j]? = some v ∧ R M c v ∧ v.oneCell' = true := by
  refine ⟨fun y hy => ?_, byteCells ⟨s.toArray⟩, ?_, fun j c hc => ?_⟩
  · simp only [byteAs, List.mem_map] at hy
    obtain ⟨b, _, rfl⟩ := hy; rfl
  · have : (byteAs s).length = (ByteArray.mk s.toArray).size := by simp [byteAs, ByteArray.size]
    rw [this]
    exact Src.ofString w hk _
  · rw [flat_bytes] at hc
    simp only [byteAs, List.getElem?_map] at hc
    cases hs : s[j]? with
    | none => simp [hs] at hc
    | some b =>
      simp only [hs, Option.map_some, Option.some.injEq] at hc
      subst hc
      exact ⟨.int .u8 b.toNat, by simp [byteCells, hs], .int _ _, rfl⟩

theorem run_append_row (t tx ty e : TypeId) (i : TypeInfo) (ht : P.underlying t = some (.slice e)) (hi : P.info? e = some i) (b sLen sCap : Nat) (x : Value) (n : Nat) (news : List Value) (hs : Src P i.size tx x n news w)
    {cur : Array Value} {el : TypeId} (hg : w.heap[b]? = some (.cells cur el (0, 0))) (hroom : sLen + n ≤ sCap) (hfit : sLen * i.size + news.length ≤ cur.size) :
    (Builtin.append_ #[t, tx] ty #[.slice (some ⟨b, 0, none⟩) sLen sCap, x]).run P w = .ok (.slice (some ⟨b, 0, none⟩) (sLen + n) sCap) (w.setRow b (cur.toList.take (sLen * i.size) ++ news ++ cur.toList.drop (sLen * i.size + news.length)).toArray) := by
  have hst := run_storeCells_at P b (sLen * i.size) el news 0 cur w hg (by simpa using hfit) hs.one
  simp only [Nat.add_zero] at hst
  rcases hs.kind with ⟨e', hk⟩ | hk <;> simp [Builtin.append_, run_underlying ht, run_underlying hk, sizeOf, typeInfo, hi, hs.len, hroom, hs.cells, Addr.add_lit, hst]
end
end Go.Proofs.YtenigafbbdjagaaDoor.AL

/- An append, whatever becomes of it. -/
namespace Go.Proofs.YtenigafbbdjagaaDoor.AL
open Go Go.RowKit
set_option linter.unusedVariables false
set_option linter.unusedSimpArgs false

section
variable {P : Program} {E : E0} {g : GS} {w w' : World} {σ : AS} {a : Act} {o : Oper} {d : Nat} {x : TV} {v : Value} {M : Mem}

/-- The base of an append: a slice that may be appended to. -/
def Live (k : List Nat) (s : Nat) : Prop := s = 999999 ∨ s ∈ k

def pushK (d s : Nat) (k : List Nat) : List Nat := killK d (killK s k)

theorem Rel.subK (h : Rel E σ a w) {k' : List Nat} (hk : ∀ t, t ∈ k' → t ∈ σ.k) : Rel E ⟨σ.n, σ.t, σ.b, k'⟩ a w := by
  obtain ⟨g, h1, h2, h3⟩ := h
  exact ⟨g, { h1 with live := fun t ht => h1.live t (hk t ht) }, h2, h3⟩

theorem Rel.useK (h : Rel E σ a w) {s : Nat} (hs : s ≤ 999999) : Rel E ⟨σ.n, σ.t, σ.b, killK s σ.k⟩ a w := by
  by_cases e : s = 999999
  · exact h.subK fun t ht => (mem_killK s t σ.k ht).2
  · exact h.dropK s (by omega)

theorem zeroC_info {t : TypeId} {cs : List AV} (h : zeroC P t = some cs) : ∃ z, (P.info? t).bind (·.zero) = some z ∧ z.cells.size = cs.length := by
  have h' := h
  unfold zeroC at h
  split at h
  · rename_i z hz
    split at h
    · rename_i hc
      simp only [Bool.and_eq_true, beq_iff_eq] at hc
      simp only [Option.some.injEq] at h
      subst h
      exact ⟨z, hz, by simpa using (zall_at (M := fun _ _ => none) hc.1.1).1.symm⟩
    · cases h
  · cases h

theorem sl_some {sz : Nat} {xs : List AV} {b off len cap : Nat} (h : R M (.sl sz xs) (.slice (some ⟨b, off, none⟩) len cap)) : len = xs.length ∧ len ≤ cap ∧ cap ≤ maxLen ∧ (∀ x ∈ xs, x.cells.length = sz) ∧
    ∃ vs : Nat → Value, (∀ j c, (flat xs)[j]? = some c → M b (off + j) = some (vs j)) ∧ ∀ j c, (flat xs)[j]? = some c → R M c (vs j) := by
  cases h with
  | slE sz a cap hmax => exact ⟨rfl, Nat.zero_le _, hmax, fun x hx => (by cases hx), fun _ => .nilFunc, fun j c hc => (by simp [flat] at hc), fun j c hc => (by simp [flat] at hc)⟩
  | sl b off sz xs len cap vs hl hcap hmax hsz hM hR => exact ⟨hl, hcap, hmax, hsz, vs, hM, hR⟩

theorem append_ok (h1 : Wf g w σ.b σ.k) (h2 : Tmps g w σ a) (h3 : Ext E.g E.w g w) (hd : d < σ.n) (hd' : d < 999999) {t tx ty e : TypeId} {sz bytes s : Nat} {xs ys zs : List AV} {u y : Value}
    (ht : aty P t = .slice e sz bytes) (hz : zeroC P e = some zs) (hz0 : sz ≠ 0) (hzs : zs.length = sz)
    (hs : Live σ.k s) (hs9 : s ≤ 999999) (hb : (xs.length + ys.length) * bytes ≤ 140737488355328) (hml : xs.length + ys.length ≤ 9223372036854775807)
    (hu0 : RT g w (.ap sz xs s) u) (hys : ∀ y ∈ ys, y.cells.length = sz) {news : List Value} (hsrc : Src P sz tx y ys.length news w) (hnews : ∀ (j : Nat) c, (flat ys)[j]? = some c → ∃ v, news[j]? = some v ∧ R g.M c v ∧ v.oneCell' = true) :
    ∃ r w', (Builtin.append_ #[t, tx] ty #[u, y]).run P w = .ok r w' ∧ Rel E ⟨σ.n, (d, .ap sz (xs ++ ys) d) :: killT d σ.t, killB d σ.b, d :: pushK d s σ.k⟩ (a.put (some d) r) w' := by
  have hrel : Rel E σ a w := ⟨g, h1, h2, h3⟩
  obtain ⟨hut, hse, hby⟩ := aty_slice ht
  obtain ⟨i, hi, his⟩ := info_of_sz hse hz0
  have hib : i.bytes = bytes := by simpa [Program.bytesOf, hi] using hby
  obtain ⟨z, hzv, hzl⟩ := zeroC_info hz
  have hzi : i.zero = some z := by simpa [hi] using hzv
  rw [hzs] at hzl
  obtain ⟨hR, hk⟩ : R g.M (.sl sz xs) u ∧ ∀ ob, g.κ s = some ob → Tok g.M w ob sz xs.length u := by
    cases hu0 with
    | ap sz xs s x h hk => exact ⟨h, hk⟩
  obtain ⟨g', g1, g2, g3, hgM⟩ : ∃ g', Wf g' w σ.b (killK s σ.k) ∧ Tmps g' w σ a ∧ Ext E.g E.w g' w ∧ g'.M = g.M := by
    by_cases e : s = 999999
    · exact ⟨g, { h1 with live := fun t ht => h1.live t (mem_killK s t σ.k ht).2 }, h2, h3, rfl⟩
    · refine ⟨g.dropK s, h1.dropK s, ⟨h2.1, h2.2.1, fun t x hx => ⟨(h2.2.2.1 t x hx).1, (h2.2.2.1 t x hx).2.dropK⟩, ?_⟩, h3.dropK s, rfl⟩
      simp only [GS.dropK]; rw [if_neg (by omega)]; exact h2.2.2.2
  have key : ∀ (olds : List Value) (base : Option Addr) (sCap : Nat), u = .slice base xs.length sCap → olds.length = xs.length * sz → (∀ x ∈ xs, x.cells.length = sz) →
      (Builtin.firstCells i.size xs.length (.slice base xs.length sCap)).run P w.drew = .ok olds.toArray w.drew →
      (∀ (j : Nat) c, (flat xs)[j]? = some c → ∃ v, olds[j]? = some v ∧ R g.M c v ∧ v.oneCell' = true) → sCap < xs.length + ys.length →
      ∃ r w', (Builtin.append_ #[t, tx] ty #[u, y]).run P w = .ok r w' ∧ Rel E ⟨σ.n, (d, .ap sz (xs ++ ys) d) :: killT d σ.t, killB d σ.b, d :: pushK d s σ.k⟩ (a.put (some d) r) w' := by
    intro olds base sCap hub hol hxs hfirst holds hlt
    have hrun := run_append_grow_src (P := P) w t tx ty e i z hut hi hzi base xs.length sCap olds hfirst y ys.length news (by rw [his]; exact hsrc) hlt (by omega) (by
      rw [hib]
      exact growslice_fits hlt hb)
    rw [← hub] at hrun
    refine ⟨_, _, hrun, ?_⟩
    have hge := grownCap_ge w (xs.length + ys.length) sCap e
    have hcm := grownCap_le_maxLen w (xs.length + ys.length) sCap e (by unfold maxLen; omega)
    have hfl := flat_length xs hxs
    have := newTok_rel (E := E) (g := g') (σ := ⟨σ.n, σ.t, σ.b, killK s σ.k⟩) (a := a) g1 g2 g3 (w' := w.drew) (d := d) (sz := sz) (cap := grownCap w (xs.length + ys.length) sCap e) (xs := xs ++ ys) (vs := (olds ++ news).toArray ++ Builtin.zeroCells z.cells (grownCap w (xs.length + ys.length) sCap e - (xs.length + ys.length))) (e := e)
      rfl rfl rfl rfl hd hd' (by rw [List.length_append]; exact hge) hcm (by
        simp only [Array.size_append, List.size_toArray, List.length_append, size_zeroCells, hzl, hol, hsrc.newsLen, ← Nat.add_mul]
        congr 1; omega) (by
        intro q hq
        rcases List.mem_append.1 hq with hq | hq
        · exact hxs q hq
        · exact hys q hq) (by
        intro j c hc
        rw [flat_append, List.getElem?_append] at hc
        rw [hgM]
        split at hc
        · rename_i hj
          obtain ⟨v, q1, q2, q3⟩ := holds j c hc
          refine ⟨v, ?_, q2, q3⟩
          have hjo : j < olds.length := (List.getElem?_eq_some_iff.1 q1).1
          rw [Array.getElem?_append_left (by simp; omega), List.getElem?_toArray, List.getElem?_append_left hjo, q1]
        · rename_i hj
          obtain ⟨v, q1, q2, q3⟩ := hnews _ c hc
          refine ⟨v, ?_, q2, q3⟩
          have hjn : j - (flat xs).length < news.length := (List.getElem?_eq_some_iff.1 q1).1
          rw [Array.getElem?_append_left (by simp; omega), List.getElem?_toArray, List.getElem?_append_right (by omega), hol, ← hfl, q1])
    simpa [AS.newTok, List.length_append, pushK] using this
  obtain ⟨ob, hob⟩ : ∃ ob, g.κ s = some ob := by
    rcases hs with rfl | hs
    · exact ⟨none, h2.2.2.2⟩
    · have := h1.live s hs
      cases hks : g.κ s with
      | none => exact absurd hks this
      | some ob => exact ⟨ob, rfl⟩
  have hT := hk ob hob
  cases ob with
  | none =>
    simp only [Tok] at hT
    subst hT
    obtain rfl : xs = [] := by
      rcases sl_inv hR with ⟨h, _⟩ | ⟨b, off, cap, vs, hv, _⟩
      · exact h
      · cases hv
    by_cases hy0 : ys = []
    · subst hy0
      have hn0 : news = [] := List.eq_nil_of_length_eq_zero (by simpa using hsrc.newsLen)
      subst hn0
      refine ⟨.slice none 0 0, w, ?_, ?_⟩
      · have hl : (Builtin.lenOf y).run P w = .ok 0 w := hsrc.len w
        have hc : (Builtin.firstCells i.size 0 y).run P w = .ok #[] w := by rw [his]; exact hsrc.cells
        rcases hsrc.kind with ⟨e', hkk⟩ | hkk <;> simp [Builtin.append_, run_underlying hut, run_underlying hkk, sizeOf, typeInfo, hi, hl, hc]
      · have := Rel.nilTok (E := E) (σ := ⟨σ.n, σ.t, σ.b, killK s σ.k⟩) (a := a) (w := w) ⟨g', g1, g2, g3⟩ (d := d) hd hd' sz
        simpa [AS.newTok, pushK] using this
    · have hpos : 0 < ys.length := List.length_pos_iff.2 hy0
      exact key [] none 0 rfl (by simp) (fun x hx => (by cases hx)) (run_firstCells_none w.drew i.size _ _ _) (fun j c hc => (by simp [flat] at hc)) (by simpa using hpos)
  | some b =>
    simp only [Tok] at hT
    obtain ⟨cap, cur, el, rfl, hheap, hcur, hfree⟩ := hT
    obtain ⟨_, hcap, hmax, hxs, vs, hM, hRv⟩ := sl_some hR
    have hs999 : s ≠ 999999 := by rintro rfl; rw [h2.2.2.2] at hob; cases hob
    have hfl := flat_length xs hxs
    have hcell : ∀ j c, (flat xs)[j]? = some c → cur[j]? = some (vs j) ∧ (vs j).oneCell' = true := fun j c hj => by
      have := h1.mem b (0 + j) _ (hM j c hj)
      refine ⟨?_, this.2⟩
      have h' := this.1
      simpa [World.cell?, hheap] using h'
    have hfitx : xs.length * sz ≤ cur.size := by rw [hcur]; exact Nat.mul_le_mul_right _ hcap
    by_cases hroom : xs.length + ys.length ≤ cap
    · have hfit : xs.length * i.size + news.length ≤ cur.size := by rw [his, hsrc.newsLen, hcur, ← Nat.add_mul]; exact Nat.mul_le_mul_right _ hroom
      have hrun := run_append_row (P := P) (w := w) t tx ty e i hut hi b xs.length cap y ys.length news (by rw [his]; exact hsrc) hheap hroom hfit
      refine ⟨_, _, hrun, ?_⟩
      rw [his] at hfit ⊢
      have hlo : ∀ o, xs.length * sz ≤ o → g.M b o = none := hfree
      have hsize : (cur.toList.take (xs.length * sz) ++ news ++ cur.toList.drop (xs.length * sz + news.length)).length = cur.size := by simp; omega
      have hmid : ∀ o, xs.length * sz ≤ o → o < xs.length * sz + news.length → (cur.toList.take (xs.length * sz) ++ news ++ cur.toList.drop (xs.length * sz + news.length)).toArray[o]? = news[o - xs.length * sz]? := fun o l1 l2 => by
        rw [List.getElem?_toArray, List.append_assoc, List.getElem?_append_right (by simp; omega), List.getElem?_append_left (by simp; omega)]
        congr 1; simp; omega
      have hlow : ∀ o, o < xs.length * sz → (cur.toList.take (xs.length * sz) ++ news ++ cur.toList.drop (xs.length * sz + news.length)).toArray[o]? = cur[o]? := fun o l1 => by
        rw [List.getElem?_toArray, List.append_assoc, List.getElem?_append_left (by simp; omega), List.getElem?_take, if_pos l1]; simp
      have hone : ∀ (o : Nat) v, news[o]? = some v → v.oneCell' = true := fun o v hv => hsrc.one v (List.mem_of_getElem? hv)
      have hML : MLe g.M (g.push s d b (xs.length * sz) (xs.length * sz + news.length) (cur.toList.take (xs.length * sz) ++ news ++ cur.toList.drop (xs.length * sz + news.length)).toArray).M := memAdd_le hlo
      have hW := h1.push (d := d) (hi := xs.length * sz + news.length) hob hlo hheap hlow (fun o v l1 l2 hv => by rw [hmid o l1 l2] at hv; exact hone _ v hv)
      have hkd : (g.push s d b (xs.length * sz) (xs.length * sz + news.length) (cur.toList.take (xs.length * sz) ++ news ++ cur.toList.drop (xs.length * sz + news.length)).toArray).κ d = some (some b) := by simp [GS.push]
      refine ⟨g.push s d b (xs.length * sz) (xs.length * sz + news.length) (cur.toList.take (xs.length * sz) ++ news ++ cur.toList.drop (xs.length * sz + news.length)).toArray, ?_, ?_, h3.push hob hlo (by omega)⟩
      · refine { hW with live := fun t ht => ?_ }
        simp only [List.mem_cons] at ht
        rcases ht with rfl | ht
        · rw [hkd]; simp
        · exact hW.live t ht
      · refine Tmps.cons (σ := σ) (ts := killT d σ.t) ?_ hd ?_
        · refine ⟨h2.1, h2.2.1, fun t y hy => ?_, by simp only [GS.push]; rw [if_neg (by omega), if_neg (fun e => hs999 e.symm)]; exact h2.2.2.2⟩
          simp only [get_killT] at hy
          cases hg : get t σ.t with
          | none => simp [hg] at hy
          | some zz =>
            simp only [hg, Option.map_some, Option.some.injEq] at hy
            subst hy
            exact ⟨(h2.2.2.1 t zz hg).1, (h2.2.2.1 t zz hg).2.push h1 hob hlo⟩
        · refine .ap sz (xs ++ ys) d _ (.sl b 0 sz (xs ++ ys) _ cap (fun j => if j < xs.length * sz then vs j else (news[j - xs.length * sz]?).getD Go.undef) (by simp) (by omega) hmax (fun q hq => ?_) (fun j c hj => ?_) (fun j c hj => ?_)) fun ob' hob' => ?_
          · rcases List.mem_append.1 hq with hq | hq
            · exact hxs q hq
            · exact hys q hq
          · rw [flat_append, List.getElem?_append] at hj
            split at hj
            · rename_i hjl
              rw [if_pos (by omega)]
              exact hML _ _ _ (hM j c hj)
            · rename_i hjl
              obtain ⟨v, q1, q2, q3⟩ := hnews _ c hj
              have hjn : j - (flat xs).length < news.length := (List.getElem?_eq_some_iff.1 q1).1
              rw [if_neg (by omega)]
              simp only [GS.push, memAdd, Nat.zero_add, true_and]
              rw [if_pos (by omega), hmid j (by omega) (by omega), ← hfl, q1]; rfl
          · rw [flat_append, List.getElem?_append] at hj
            split at hj
            · rename_i hjl
              rw [if_pos (by omega)]
              exact (hRv j c hj).mono hML
            · rename_i hjl
              obtain ⟨v, q1, q2, q3⟩ := hnews _ c hj
              have ej : j - xs.length * sz = j - (flat xs).length := by rw [hfl]
              rw [if_neg (by omega), ej, q1]
              exact q2.mono hML
          · rw [hkd] at hob'; cases hob'
            refine ⟨cap, _, el, by simp, setRow_heap w b cur _ el (0, 0) hheap, by rw [List.size_toArray, hsize, hcur], fun o ho => ?_⟩
            simp only [GS.push, memAdd, true_and]
            rw [List.length_append, Nat.add_mul] at ho
            rw [if_neg (by rw [hsrc.newsLen]; omega)]
            exact hlo o (by omega)
    · refine key ((cur.toList.take (xs.length * sz))) (some ⟨b, 0, none⟩) cap rfl (by simp; omega) hxs ?_ (fun j c hc => ?_) (by omega)
      · refine run_firstCells_some (P := P) w.drew i.size xs.length ⟨b, 0, none⟩ _ _ _ (by simp [his]; omega) (fun j v hj => ?_)
        rw [List.getElem?_take] at hj
        split at hj
        · rw [add_none, Nat.zero_add]
          rw [World.cell?_drew]
          simp only [World.cell?, hheap]
          simpa using hj
        · cases hj
      · have hlt : j < xs.length * sz := by rw [← hfl]; exact (List.getElem?_eq_some_iff.1 hc).1
        obtain ⟨q1, q2⟩ := hcell j c hc
        exact ⟨vs j, by rw [List.getElem?_take, if_pos hlt]; simpa using q1, hRv j c hc, q2⟩
end
end Go.Proofs.YtenigafbbdjagaaDoor.AL

/- Slice literals; the steps of all operations that call nobody. -/
namespace Go.Proofs.YtenigafbbdjagaaDoor.AL
open Go Go.RowKit
set_option linter.unusedVariables false
set_option linter.unusedSimpArgs false

def elemsA (sz : Nat) (xs : List AV) : List (Nat × AV) → Option (List AV)
  | [] => some xs
  | (i, v) :: rest => if v.cells.length = sz ∧ i < xs.length then elemsA sz (xs.set i v) rest else none

def zeroE (P : Program) (e : TypeId) : Option AV :=
  match zeroC P e with
  | some zs => if (aty P e).isAgg = true then some (.agg zs) else zs[0]?
  | none => none

section
variable {P : Program} {E : E0} {g : GS} {w w' : World} {σ : AS} {a : Act} {o : Oper} {d : Nat} {x : TV} {v : Value} {M : Mem}

theorem zeroE_cells {e : TypeId} {z : AV} (h : zeroE P e = some z) (hz : (aty P e).size ≠ 0) : ∃ zs, zeroC P e = some zs ∧ z.cells = zs := by
  unfold zeroE at h
  split at h
  · rename_i zs hzs
    split at h
    · cases h; exact ⟨zs, hzs, rfl⟩
    · rename_i hag
      refine ⟨zs, hzs, ?_⟩
      obtain ⟨zv, _, hl, _, hne, hR⟩ := zeroC_some (M := fun _ _ => none) hzs
      have hs1 : (aty P e).size = 1 := by
        cases ha : aty P e <;> simp_all [ATy.size, ATy.isAgg]
      rw [hs1] at hl
      obtain ⟨y, rfl⟩ := List.length_eq_one_iff.1 hl
      simp only [List.getElem?_cons_zero, Option.some.injEq] at h
      subst h
      cases y with
      | agg cs =>
        obtain ⟨zv', hzv', hsz⟩ := zeroC_info hzs
        have h0 : ∃ u, zv'.cells[0]? = some u := ⟨zv'.cells[0]'(by rw [hsz]; simp), by simp⟩
        obtain ⟨u, hu⟩ := h0
        exfalso
        have hzs' := hzs
        unfold zeroC at hzs'
        rw [hzv'] at hzs'
        simp only at hzs'
        split at hzs'
        · rename_i hc
          simp only [Bool.and_eq_true] at hc
          simp only [Option.some.injEq] at hzs'
          rw [hzs'] at hc
          have hzl : zv'.cells.toList[0]? = some u := by simpa using hu
          cases hl' : zv'.cells.toList with
          | nil => rw [hl'] at hzl; cases hzl
          | cons q l =>
            have := hc.1.1
            rw [hl'] at this
            simp [zall, zmatch] at this
        · cases hzs'
      | _ => rfl
  · cases h

theorem flat_set {sz : Nat} : ∀ (xs : List AV) (i : Nat) (v : AV), (∀ x ∈ xs, x.cells.length = sz) → i < xs.length → flat (xs.set i v) = (flat xs).take (i * sz) ++ v.cells ++ (flat xs).drop (i * sz + sz)
  | [], i, v, _, h => by simp at h
  | x :: xs, 0, v, hs, h => by
    have hx := hs x (by simp)
    simp only [flat, List.set_cons_zero, List.flatMap_cons, Nat.zero_mul, List.take_zero, List.nil_append, Nat.zero_add]
    rw [← hx, List.drop_left]
  | x :: xs, i + 1, v, hs, h => by
    have hx := hs x (by simp)
    have ih := flat_set xs i v (fun y hy => hs y (by simp [hy])) (by simpa using h)
    simp only [flat, List.set_cons_succ, List.flatMap_cons] at ih ⊢
    have e1 : (i + 1) * sz = x.cells.length + i * sz := by rw [hx, Nat.succ_mul]; omega
    have e2 : (i + 1) * sz + sz = x.cells.length + (i * sz + sz) := by rw [hx, Nat.succ_mul]; omega
    rw [ih, e2, e1, List.take_length_add_append, List.drop_length_add_append, List.append_assoc, List.append_assoc, List.append_assoc]

theorem cells_at {cs : List AV} {vs : Array Value} (h : Cells M cs vs) {j : Nat} {c : AV} (hc : cs[j]? = some c) : ∃ v, vs[j]? = some v ∧ R M c v ∧ v.oneCell' = true := by
  have hlt : j < vs.size := by rw [← h.1]; exact (List.getElem?_eq_some_iff.1 hc).1
  exact ⟨vs[j], by simp [hlt], h.2 j c _ hc (by simp [hlt])⟩

theorem elems_ok {sz : Nat} (hz : sz ≠ 0) : ∀ {ps : List (Nat × AV)} {xs xs' : List AV} {vs : Array Value} {us : List (Nat × Value)}, (∀ x ∈ xs, x.cells.length = sz) → Cells M (flat xs) vs → elemsA sz xs ps = some xs' → ps.map (·.1) = us.map (·.1) →
    (∀ (j : Nat) i x, ps[j]? = some (i, x) → ∃ v, us[j]? = some (i, v) ∧ R M x v) → ∃ vs', Instr.fill (fun i => some (i * sz, sz)) vs us = some vs' ∧ Cells M (flat xs') vs' ∧ xs'.length = xs.length ∧ ∀ x ∈ xs', x.cells.length = sz
  | [], xs, xs', vs, us, hs, hc, h, hm, hR => by
    simp only [elemsA, Option.some.injEq] at h
    subst h
    cases us with
    | nil => exact ⟨vs, rfl, hc, rfl, hs⟩
    | cons u us => simp at hm
  | (i, x) :: ps, xs, xs', vs, us, hs, hc, h, hm, hR => by
    cases us with
    | nil => simp at hm
    | cons u us =>
      obtain ⟨i', v⟩ := u
      simp only [List.map_cons, List.cons.injEq] at hm
      obtain ⟨rfl, hm⟩ := hm
      obtain ⟨v', hv', hRv⟩ := hR 0 i x rfl
      simp only [List.getElem?_cons_zero, Option.some.injEq, Prod.mk.injEq, true_and] at hv'
      subst hv'
      simp only [elemsA] at h
      split at h
      · rename_i hcond
        obtain ⟨e1, e2⟩ := hcond
        have hfl := flat_length xs hs
        have hxc := cells_of hRv
        have hle : i * sz + sz ≤ xs.length * sz := by rw [← Nat.succ_mul]; exact Nat.mul_le_mul_right _ e2
        rw [fill_one (off := i * sz) (size := sz) rfl (by rw [← hxc.1]; exact e1) (by rw [← hc.1, hfl]; exact hle)]
        have hput := cells_put hc hxc (off := i * sz) (by omega)
        rw [e1] at hput
        rw [← flat_set xs i x hs e2] at hput
        obtain ⟨vs', q1, q2, q3, q4⟩ := elems_ok hz (fun y hy => by
          rcases List.mem_or_eq_of_mem_set hy with hy | rfl
          · exact hs y hy
          · exact e1) hput h hm (fun j i x hj => by
            obtain ⟨v, hv, hR'⟩ := hR (j + 1) i x (by simpa using hj)
            exact ⟨v, by simpa using hv, hR'⟩)
        exact ⟨vs', q1, q2, by simpa using q3, q4⟩
      · cases h

theorem flat_replicate {z : AV} {sz : Nat} (hz : z.cells.length = sz) (n j : Nat) (hj : j < n * sz) : (flat (List.replicate n z))[j]? = z.cells[j % sz]? := by
  induction n generalizing j with
  | zero => simp at hj
  | succ n ih =>
    simp only [flat, List.replicate_succ, List.flatMap_cons]
    by_cases h : j < sz
    · rw [List.getElem?_append_left (by omega), Nat.mod_eq_of_lt h]
    · rw [List.getElem?_append_right (by omega), hz]
      have := ih (j - sz) (by rw [Nat.succ_mul] at hj; omega)
      simp only [flat] at this
      rw [this, ← Nat.mod_eq_sub_mod (by omega)]

theorem build_ok (h1 : Wf g w σ.b σ.k) (h2 : Tmps g w σ a) (h3 : Ext E.g E.w g w) (hd : d < σ.n) (hd' : d < 999999) {t e : TypeId} {sz by_ len : Nat} {z : AV} {ps : List (Nat × AV)} {us : Array (Nat × Value)} {xs : List AV}
    (ht : aty P t = .slice e sz by_) (hz : zeroE P e = some z) (hzl : z.cells.length = sz) (hs0 : sz ≠ 0) (hbig : len * sz ≤ 16777216) (hel : elemsA sz (List.replicate len z) ps = some xs)
    (hm : ps.map (·.1) = us.toList.map (·.1)) (hR : ∀ (j : Nat) i x, ps[j]? = some (i, x) → ∃ v, us.toList[j]? = some (i, v) ∧ R g.M x v) :
    ∃ r w', (Instr.buildSlice t len us).run P w = .ok r w' ∧ Rel E (σ.newTok d sz xs) (a.put (some d) r) w' := by
  obtain ⟨hut, hse, _⟩ := aty_slice ht
  have hne : aty P e ≠ .none := by
    intro he
    unfold zeroE zeroC at hz
    split at hz
    · rename_i zs hzs
      split at hzs
      · split at hzs
        · rename_i hc; simp [he, ATy.ok] at hc
        · cases hzs
      · cases hzs
    · cases hz
  have hse' := size_aty hne
  obtain ⟨zs, hzc, hzz⟩ := zeroE_cells hz (by rw [hse', hse]; exact hs0)
  obtain ⟨zv, hzv, hl1, hl2, _, hzR⟩ := zeroC_some (M := g.M) hzc
  rw [hzz] at hzl
  have hini : Cells g.M (flat (List.replicate len z)) ((Array.range (len * sz)).map (zv.cells[· % zv.cells.size]!)) := by
    have hall : ∀ y ∈ List.replicate len z, y.cells.length = sz := fun y hy => by rw [(List.mem_replicate.1 hy).2, hzz]; exact hzl
    refine ⟨by rw [flat_length _ hall]; simp, fun j c v hc hv => ?_⟩
    have hj : j < len * sz := by have := (List.getElem?_eq_some_iff.1 hc).1; rw [flat_length _ hall] at this; simpa using this
    rw [flat_replicate (by rw [hzz]; exact hzl) len j hj, hzz] at hc
    rw [Array.getElem?_map, Array.getElem?_range, if_pos hj] at hv
    simp only [Option.map_some, Option.some.injEq] at hv
    have hlt : j % sz < zv.cells.size := by rw [hl2, hzl]; exact Nat.mod_lt _ (by omega)
    refine hzR (j % sz) c v hc ?_
    rw [← hv, hl2, hzl]
    simp [hlt]
  obtain ⟨vs', q1, q2, q3, q4⟩ := elems_ok hs0 (fun y hy => by rw [(List.mem_replicate.1 hy).2, hzz]; exact hzl) hini hel hm hR
  simp only [List.length_replicate] at q3
  have hlen : len ≤ 16777216 := Nat.le_trans (Nat.le_mul_of_pos_right _ (by omega)) hbig
  have hvs : vs'.size = len * sz := by rw [← q2.1, flat_length xs q4, q3]
  have := newTok_rel (E := E) (g := g) (σ := σ) (a := a) h1 h2 h3 (w' := w) (d := d) (sz := sz) (cap := len) (xs := xs) (vs := vs') (e := e) rfl rfl rfl rfl hd hd' (by omega) (by unfold maxLen; omega) hvs q4 (fun j c hc => cells_at q2 hc)
  rw [q3] at this
  refine ⟨_, _, ?_, this⟩
  have hb' : ¬ (2 ^ 24 < len * sz) := by omega
  by_cases h0 : len * sz = 0
  · have h00 : len = 0 := by rcases Nat.mul_eq_zero.1 h0 with h | h <;> omega
    subst h00
    have e0 : ∀ f : Nat → Value, (Array.range 0).map f = #[] := fun f => by simp
    simp only [Nat.zero_mul, e0] at q1
    simp [Instr.buildSlice, run_underlying hut, run_sizeOf hse hs0, newRow, e0, q1]
  · simp only [Instr.buildSlice, Sem.run_bind, run_underlying hut, run_sizeOf hse hs0, Result.andThen_ok]
    simp [hb', h0, hzv, q1, newRow]
end

/-! ### The step of an operation that calls nobody -/
def memK (s : Nat) : List Nat → Bool
  | [] => false
  | m :: l => bif m == s then true else memK s l
theorem memK_mem {s : Nat} {l : List Nat} (h : memK s l = true) : s ∈ l := by
  induction l with
  | nil => simp [memK] at h
  | cons m l ih =>
    simp only [memK] at h
    cases hm : m == s
    · simp only [hm, cond_false] at h; simp [ih h]
    · simp only [beq_iff_eq] at hm; simp [hm]

/-- What an append takes in. -/
def srcA (P : Program) (σ : AS) (t : TypeId) (sz : Nat) (x : Operand) : Option (List AV) :=
  match aty P t, (evT P t σ x).dat with
  | .slice _ _ _, some (.sl sz' ys) => bif sz == sz' then some ys else none
  | .str, some (.str s) => bif sz == 1 then some (byteAs s) else none
  | _, _ => none

def tvz : AV → TV
  | .sl sz [] => .ap sz [] 999999
  | c => .v c

/-- A slice literal. -/
def bsA (P : Program) (σ : AS) (t : TypeId) (len : Nat) (parts : Array (Nat × Operand)) : Option (Nat × List AV) :=
  match aty P t with
  | .slice e sz _ =>
    match zeroE P e, datsOf (parts.toList.map fun p => (p.1, evT P e σ p.2)) with
    | some z, some ps => if z.cells.length = sz ∧ sz ≠ 0 ∧ len * sz ≤ 16777216 then (elemsA sz (List.replicate len z) ps).map fun xs => (sz, xs) else none
    | _, _ => none
  | _ => none

/-- An append. -/
def apA (P : Program) (σ : AS) (args : Array Operand) (ats : Array TypeId) : Option (Nat × List AV × Nat) :=
  match args.toList, ats.toList with
  | [s, x], [t, tx] =>
    match aty P t with
    | .slice e sz bytes =>
      match evT P t σ s, srcA P σ tx sz x, zeroC P e with
      | .ap sz' xs tk, some ys, some zs =>
        if sz' = sz ∧ sz ≠ 0 ∧ zs.length = sz ∧ tk ≤ 999999 ∧ (xs.length + ys.length) * bytes ≤ 140737488355328 ∧ xs.length + ys.length ≤ 9223372036854775807 then some (sz, xs ++ ys, tk) else none
      | _, _, _ => none
    | _ => none
  | _, _ => none

/-- The operations that write memory of the run's own. -/
def stepE (P : Program) (σ : AS) (o : Oper) (d : Nat) : Option AS :=
  match o.op with
  | .alloc t => (zeroC P t).map fun cs => σ.newBox d (killL d (cs.map tvz))
  | .box t x => (tcells (evT P t σ x)).map fun cs => σ.newBox d (killL d cs)
  | .buildSlice t len parts => (bsA P σ t len parts).map fun p => σ.newTok d p.1 p.2
  | .call { callee := .builtin .append, args, argTypes } =>
    match apA P σ args argTypes with
    | some (sz, zs, tk) => if tk = 999999 ∨ memK tk σ.k = true then some ⟨σ.n, (d, .ap sz zs d) :: killT d σ.t, killB d σ.b, d :: pushK d tk σ.k⟩ else none
    | none => none
  | _ => none

theorem bsA_some {P : Program} {σ : AS} {t : TypeId} {len sz : Nat} {parts : Array (Nat × Operand)} {xs : List AV} (h : bsA P σ t len parts = some (sz, xs)) :
    ∃ e by_ z ps, aty P t = .slice e sz by_ ∧ zeroE P e = some z ∧ datsOf (parts.toList.map fun p => (p.1, evT P e σ p.2)) = some ps ∧ z.cells.length = sz ∧ sz ≠ 0 ∧ len * sz ≤ 16777216 ∧ elemsA sz (List.replicate len z) ps = some xs := by
  unfold bsA at h
  split at h
  · rename_i e sz' by_ hty
    split at h
    · rename_i z ps hz hps
      split at h
      · rename_i hc
        obtain ⟨q, hq, e1⟩ := Option.map_eq_some_iff.1 h
        cases e1
        exact ⟨e, by_, z, ps, hty, hz, hps, hc.1, hc.2.1, hc.2.2, hq⟩
      · cases h
    · cases h
  · cases h

theorem apA_some {P : Program} {σ : AS} {args : Array Operand} {ats : Array TypeId} {sz tk : Nat} {ws : List AV} (h : apA P σ args ats = some (sz, ws, tk)) :
    ∃ s x t tx e bytes xs ys zs, args = #[s, x] ∧ ats = #[t, tx] ∧ aty P t = .slice e sz bytes ∧ evT P t σ s = .ap sz xs tk ∧ srcA P σ tx sz x = some ys ∧ zeroC P e = some zs ∧ sz ≠ 0 ∧ zs.length = sz ∧ tk ≤ 999999 ∧
      (xs.length + ys.length) * bytes ≤ 140737488355328 ∧ xs.length + ys.length ≤ 9223372036854775807 ∧ ws = xs ++ ys := by
  unfold apA at h
  split at h
  · rename_i s x t tx hargs hats
    split at h
    · rename_i e sz' bytes hty
      split at h
      · rename_i sz2 xs tk' ys zs hs hsrc hz
        split at h
        · rename_i hc
          obtain ⟨rfl, c2, c3, c4, c5, c6⟩ := hc
          cases h
          have ha : args = #[s, x] := by rcases args with ⟨l⟩; simp at hargs; rw [hargs]
          have hb : ats = #[t, tx] := by rcases ats with ⟨l⟩; simp at hats; rw [hats]
          exact ⟨s, x, t, tx, e, bytes, xs, ys, zs, ha, hb, hty, hs, hsrc, hz, c2, c3, c4, c5, c6, rfl⟩
        · cases h
      · cases h
    · cases h
  · cases h

def stepOp (P : Program) (σ : AS) (o : Oper) : Option AS :=
  match o.dst with
  | some d =>
    if d < σ.n then
      match evalP P σ o with
      | some r => some (σ.put d r)
      | none => if d < 999999 then stepE P σ o d else none
    else none
  | none =>
    match o.op with
    | .store t x y =>
      match ev σ x, tcells (evT P t σ y) with
      | .loc s off, some nc =>
        match get s σ.b with
        | some cs => if nc.length = (aty P t).size ∧ nc.length ≠ 0 ∧ off + nc.length ≤ cs.length then some ⟨σ.n, σ.t, setB s (cs.take off ++ nc ++ cs.drop (off + nc.length)) σ.b, σ.k⟩ else none
        | none => none
      | _, _ => none
    | _ => none

section
variable {P : Program} {E : E0} {g : GS} {w w' : World} {σ σ' : AS} {a : Act} {o : Oper} {d : Nat} {x : TV} {v : Value} {M : Mem}

def Goes (P : Program) (E : E0) (σ' : AS) (a : Act) (o : Oper) (w : World) : Prop :=
  ∃ v w', ((execOp a.eval o).run P w = .ok (.value v) w' ∨ ((execOp a.eval o).run P w = .ok .skip w' ∧ v = Go.undef)) ∧ Rel E σ' (a.put o.dst v) w'

theorem tvz_ok {c : AV} {v : Value} (hn : g.κ 999999 = some none) (hm : zmatch c v = true) : RT g w (tvz c) v ∧ v.oneCell' = true := by
  refine ⟨?_, (zmatch_R (M := g.M) hm).2⟩
  have hR := (zmatch_R (M := g.M) hm).1
  unfold tvz
  split
  · have : v = .slice none 0 0 := by
      unfold zmatch at hm
      split at hm <;> simp_all
    rw [this]
    exact RT.nil hn _
  · exact .v _ _ hR

theorem zeroC_match {t : TypeId} {cs : List AV} (h : zeroC P t = some cs) : ∃ z, (∀ w, (zeroValue t).run P w = .ok z w) ∧ cs.length = z.cells.size ∧ ∀ (j : Nat) c v, cs[j]? = some c → z.cells[j]? = some v → zmatch c v = true := by
  have h' := h
  unfold zeroC at h
  split at h
  · rename_i z hz
    split at h
    · rename_i hc
      simp only [Bool.and_eq_true, beq_iff_eq] at hc
      simp only [Option.some.injEq] at h
      subst h
      obtain ⟨z', hz', hzl⟩ := zeroC_info h'
      rw [hz] at hz'; cases hz'
      refine ⟨z, fun w => ?_, hzl.symm, ?_⟩
      · cases hi : P.info? t with
        | none => simp [hi] at hz
        | some i =>
          simp only [hi, Option.bind_some] at hz
          simp [zeroValue, typeInfo, hi, hz]
      · have key : ∀ (as : List AV) (vs : List Value), zall as vs = true → ∀ (j : Nat) c v, as[j]? = some c → vs[j]? = some v → zmatch c v = true := by
          intro as
          induction as with
          | nil => intro vs _ j c v hc; simp at hc
          | cons x as ih =>
            intro vs hv j c v hc hvv
            cases vs with
            | nil => simp at hvv
            | cons y vs =>
              simp only [zall, Bool.and_eq_true] at hv
              cases j with
              | zero => simp at hc hvv; subst hc; subst hvv; exact hv.1
              | succ j => simp at hc hvv; exact ih vs hv.2 j c v hc hvv
        exact fun j c v hcj hv => key _ _ hc.1.1 j c v hcj (by simpa using hv)
    · cases h
  · cases h
end
end Go.Proofs.YtenigafbbdjagaaDoor.AL

/- The steps of all operations that call nobody: that the machine takes them. -/
namespace Go.Proofs.YtenigafbbdjagaaDoor.AL
open Go Go.RowKit
set_option linter.unusedVariables false
set_option linter.unusedSimpArgs false

section
variable {P : Program} {E : E0} {g : GS} {w w' : World} {σ σ' : AS} {a : Act} {o : Oper} {d : Nat} {x : TV} {v : Value} {M : Mem}

theorem stepE_ok (h1 : Wf g w σ.b σ.k) (h2 : Tmps g w σ a) (h3 : Ext E.g E.w g w) (ho : o.dst = some d) (hd : d < σ.n) (hd' : d < 999999) (h : stepE P σ o d = some σ') : Goes P E σ' a o w := by
  unfold Goes
  rw [ho]
  unfold stepE at h
  split at h
  · rename_i t hop
    obtain ⟨cs, hcs, rfl⟩ := Option.map_eq_some_iff.1 h
    obtain ⟨z, hz, hl, hm⟩ := zeroC_match hcs
    refine ⟨_, _, .inl ?_, newBox_rel (e := t) h1 h2 h3 hd hd' (cs := cs.map tvz) (vs := z.cells) (by simpa using hl) fun j c v hc hv => ?_⟩
    · simp only [execOp, hop]
      refine runV ?_
      simp [Instr.alloc, hz, newVar, newRow]
    · rw [List.getElem?_map] at hc
      cases hcj : cs[j]? with
      | none => simp [hcj] at hc
      | some c0 =>
        simp only [hcj, Option.map_some, Option.some.injEq] at hc
        subst hc
        exact tvz_ok h2.2.2.2 (hm j c0 v hcj hv)
  · rename_i t y hop
    obtain ⟨cs, hcs, rfl⟩ := Option.map_eq_some_iff.1 h
    obtain ⟨q1, q2⟩ := tcells_ok (evT_rt (P := P) (t := t) h2 y) hcs
    refine ⟨_, _, .inl ?_, newBox_rel (e := t) h1 h2 h3 hd hd' (cs := cs) (vs := (a.eval y).cells) q1 q2⟩
    simp only [execOp, hop]
    refine runV ?_
    simp [Instr.box, newVar, newRow]
  · rename_i t len parts hop
    obtain ⟨⟨sz, xs⟩, hp, rfl⟩ := Option.map_eq_some_iff.1 h
    obtain ⟨e, by_, z, ps, hty, hz, hps, e1, e2, e3, hxs⟩ := bsA_some hp
    obtain ⟨d1, d2⟩ := datsOf_at hps
    obtain ⟨r, w', hrun, hrel⟩ := build_ok (P := P) (us := parts.map fun (i, x) => (i, a.eval x)) h1 h2 h3 hd hd' hty hz e1 e2 e3 hxs (by rw [← d1]; simp) (fun j i x hj => by
      obtain ⟨tv, htv, hdt⟩ := d2 j i x hj
      rw [List.getElem?_map] at htv
      cases hp : parts.toList[j]? with
      | none => simp [hp] at htv
      | some p =>
        simp only [hp, Option.map_some, Option.some.injEq, Prod.mk.injEq] at htv
        obtain ⟨rfl, rfl⟩ := htv
        refine ⟨a.eval p.2, ?_, (evT_rt (P := P) (t := e) h2 p.2).dat hdt⟩
        have : parts[j]? = some p := by simpa using hp
        simp [this])
    exact ⟨r, w', .inl (by simp only [execOp, hop]; exact runV hrun), hrel⟩
  · rename_i args ats hop
    split at h
    · rename_i sz ws tk hap
      split at h
      · rename_i hlv
        cases h
        obtain ⟨s, y, t, tx, e, bytes, xs, ys, zs, ha, hb, hty, hs, hsrc, hz, c2, c3, c5, c6, c7, rfl⟩ := apA_some hap
        have hu := evT_rt (P := P) (t := t) h2 s
        rw [hs] at hu
        have hlive : Live σ.k tk := hlv.imp id memK_mem
        have hy : (∀ q ∈ ys, q.cells.length = sz) ∧ ∃ news, Src P sz tx (a.eval y) ys.length news w ∧ ∀ (j : Nat) c, (flat ys)[j]? = some c → ∃ v, news[j]? = some v ∧ R g.M c v ∧ v.oneCell' = true := by
          unfold srcA at hsrc
          split at hsrc
          · rename_i e' q1 q2 sz2 ys2 hty2 hd2
            cases hb' : sz == sz2
            · simp [hb'] at hsrc
            · simp only [hb', cond_true, Option.some.injEq] at hsrc
              simp only [beq_iff_eq] at hb'
              subst hsrc; subst hb'
              exact src_sl h1.mem (aty_slice hty2).1 ((evT_rt (P := P) (t := tx) h2 y).dat hd2)
          · rename_i l hty2 hd2
            cases hb' : sz == 1
            · simp [hb'] at hsrc
            · simp only [hb', cond_true, Option.some.injEq] at hsrc
              simp only [beq_iff_eq] at hb'
              subst hsrc; subst hb'
              have := str_inv ((evT_rt (P := P) (t := tx) h2 y).dat hd2)
              rw [this]
              exact src_str (aty_str hty2) l
          · cases hsrc
        obtain ⟨hys, news, hS, hnews⟩ := hy
        obtain ⟨r, w', hrun, hrel⟩ := append_ok (P := P) (ty := o.type) h1 h2 h3 hd hd' hty hz c2 c3 hlive c5 c6 c7 hu hys hS hnews
        refine ⟨r, w', .inl ?_, hrel⟩
        simp only [execOp, hop, Sem.run_bind, resolve, Sem.run_pure, Result.andThen_ok, invoke, builtin, ha, hb]
        simp [hrun]
      · cases h
    · cases h
  · cases h

theorem run_storeAt {t : TypeId} {b off : Nat} {u : Value} (hs : (aty P t).size = u.cells.size) (hz : u.cells.size ≠ 0) (hst : (storeCells ⟨b, off, none⟩ u.cells.toList).run P w = .ok () w') :
    (Instr.storeAt t (.pointer (some ⟨b, off, none⟩)) u).run P w = .ok () w' := by
  have hn : aty P t ≠ .none := not_none_of_size (by omega)
  rw [size_aty hn] at hs
  simp [Instr.storeAt, Instr.sureAddr, storeVar, run_sizeOf hs hz, hst]

theorem stepOp_ok (hr : Rel E σ a w) (h : stepOp P σ o = some σ') : Goes P E σ' a o w := by
  have hr' := hr
  obtain ⟨g, h1, h2, h3⟩ := hr
  unfold stepOp at h
  split at h
  · rename_i d ho
    split at h
    · rename_i hd
      split at h
      · rename_i r he
        cases h
        obtain ⟨v, hv, hR⟩ := evalP_ok h1 h2 he
        refine ⟨v, w, .inl hv, ?_⟩
        rw [ho]
        exact ⟨g, h1, Tmps.cons h2 hd hR, h3⟩
      · split at h
        · rename_i hd'
          exact stepE_ok h1 h2 h3 ho hd hd' h
        · cases h
    · cases h
  · rename_i ho
    split at h
    · rename_i t x y hop
      split at h
      · rename_i s off nc hs hnc
        split at h
        · rename_i cs hb
          split at h
          · rename_i hc
            cases h
            have hx := ev_rt h2 x
            rw [hs] at hx
            obtain ⟨q1, q2⟩ := tcells_ok (evT_rt (P := P) (t := t) h2 y) hnc
            obtain ⟨b, w', hv, hst, hrel⟩ := store_rel (P := P) h1 h2 h3 hb hc.2.2 q1 q2 hx
            refine ⟨Go.undef, w', .inr ⟨?_, rfl⟩, by rw [ho]; exact hrel⟩
            simp only [execOp, hop, hv]
            have := run_storeAt (P := P) (t := t) (by rw [← hc.1]; exact q1) (by rw [← q1]; exact hc.2.1) hst
            simp [this]
          · cases h
        · cases h
      · cases h
    · cases h
end
end Go.Proofs.YtenigafbbdjagaaDoor.AL

/- Calls of functions that look at values alone and write nothing that was there; their contracts. -/
namespace Go.Proofs.YtenigafbbdjagaaDoor.AL
open Go Go.RowKit
set_option linter.unusedVariables false
set_option linter.unusedSimpArgs false

def MemOk (M : Mem) (w : World) : Prop := ∀ b o v, M b o = some v → w.cell? ⟨b, o, none⟩ = some v ∧ v.oneCell' = true

def gp (M : Mem) : GS := ⟨M, fun _ => none, fun s => if s = 999999 then some none else none, []⟩

theorem gp_X (M : Mem) (b : Nat) : ¬ (gp M).X b := by
  rintro (⟨s, hs⟩ | ⟨s, hs⟩)
  · simp [gp] at hs
  · simp only [gp] at hs; split at hs <;> cases hs
/-- What a call hands back. -/
inductive ResP (M : Mem) (w w' : World) : TV → Value → Prop
  | v (a : AV) (u : Value) (h : R M a u) : ResP M w w' (.v a) u
  | ap (sz : Nat) (xs : List AV) (s : Nat) (u : Value) (ob : Option Nat) (h : R M (.sl sz xs) u) (ht : Tok M w' ob sz xs.length u) (hb : ∀ b, ob = some b → w.heap.size ≤ b ∧ b < w'.heap.size) : ResP M w w' (.ap sz xs s) u
  | tup (cs : List AV) (vs : Array Value) (hn : cs.length = vs.size) (h : ∀ (j : Nat) c v, cs[j]? = some c → vs[j]? = some v → R M c v) : ResP M w w' (.tup (cs.map .v)) (.tuple vs)

/-- A function's contract: at these values it hands back that. -/
def FC (P : Program) (f : FuncId) (args : List AV) (r : TV) : Prop :=
  (∀ vs w, (callFunc f vs).run P w = .ok (.enter f vs) w) ∧ ∀ (M : Mem) (w : World) (vals : Array Value), MemOk M w → TabP M w → args.length = vals.size →
    (∀ (j : Nat) x v, args[j]? = some x → vals[j]? = some v → R M x v) →
    Calls P f vals w fun e w' => ∃ v M', e = .returned v ∧ Below w.heap.size w w' ∧ MLe M M' ∧ (∀ b o v, M' b o = some v → M b o = some v ∨ w.heap.size ≤ b) ∧ MemOk M' w' ∧ ResP M' w w' r v

section
variable {P : Program} {E : E0} {g : GS} {w w' : World} {σ σ' : AS} {a : Act} {o : Oper} {d : Nat} {x : TV} {v : Value} {M M' : Mem} {bx : List (Nat × List TV)} {k : List Nat}

/-- More that never turns. -/
def GS.more (g : GS) (M' : Mem) : GS := { g with M := M' }

theorem RT.more (hw : Wf g w bx k) (hb : Below w.heap.size w w') (hM : MLe g.M M') (hn : ∀ b o v, M' b o = some v → g.M b o = some v ∨ w.heap.size ≤ b) (h : RT g w x v) : RT (g.more M') w' x v :=
  RT.keep (g := g) (g' := g.more M') (w := w) hM (fun _ _ h => h) (fun s ob hs => ⟨hs, fun b hb' => by
    subst hb'
    have hlt := hw.ltκ s b hs
    refine ⟨hb.block b hlt, fun o ho => ?_⟩
    cases hv : M' b o with
    | none => exact hv
    | some v =>
      rcases hn b o v hv with h1 | h1
      · rw [ho] at h1; cases h1
      · omega⟩) h

theorem Wf.more (hw : Wf g w bx k) (hb : Below w.heap.size w w') (hM : MLe g.M M') (hn : ∀ b o v, M' b o = some v → g.M b o = some v ∨ w.heap.size ≤ b) (hm : MemOk M' w') : Wf (g.more M') w' bx k where
  mem := hm
  box := fun t cs ht => by
    obtain ⟨b, vs, e, q1, q2, q3, q4, q5⟩ := hw.box t cs ht
    have hlt := hw.ltφ t b q1
    refine ⟨b, vs, e, q1, by rw [hb.block b hlt]; exact q2, q3, fun j c v hc hv => ⟨(q4 j c v hc hv).1.more hw hb hM hn, (q4 j c v hc hv).2⟩, fun o => ?_⟩
    show M' b o = none
    cases hv : M' b o with
    | none => rfl
    | some v =>
      rcases hn b o v hv with h1 | h1
      · rw [q5 o] at h1; cases h1
      · omega
  ij := hw.ij
  ik := hw.ik
  ap := hw.ap
  ltφ := fun t b ht => Nat.lt_of_lt_of_le (hw.ltφ t b ht) hb.size
  ltκ := fun t b ht => Nat.lt_of_lt_of_le (hw.ltκ t b ht) hb.size
  nφ := fun t b o ht => by
    have hlt := hw.ltφ t b ht
    show M' b o = none
    cases hv : M' b o with
    | none => rfl
    | some v =>
      rcases hn b o v hv with h1 | h1
      · rw [hw.nφ t b o ht] at h1; cases h1
      · omega
  live := hw.live
  dfr := fun j hj => by
    have h0 := hw.dfr j hj
    rw [hb.block j (Array.getElem?_eq_some_iff.1 h0).1]; exact h0
  dnd := hw.dnd
  dX := hw.dX

theorem Ext.more (h : Ext E.g E.w g w) (hb : Below w.heap.size w w') (hM : MLe g.M M') (hn : ∀ b o v, M' b o = some v → g.M b o = some v ∨ w.heap.size ≤ b) : Ext E.g E.w (g.more M') w' where
  M := h.M.trans hM
  Mn := fun b o v hv => by
    rcases hn b o v hv with h1 | h1
    · exact h.Mn b o v h1
    · exact .inr (.inl (Nat.le_trans h.size h1))
  φ := h.φ
  φn := h.φn
  κn := h.κn
  heap := fun j hj hx => by rw [hb.block j (Nat.lt_of_lt_of_le hj h.size)]; exact h.heap j hj hx
  size := Nat.le_trans h.size hb.size
  os := hb.os.trans h.os
  tape := hb.tape.trans h.tape
  output := hb.output.trans h.output
  dn := h.dn

theorem Tmps.more (hw : Wf g w bx k) (h : Tmps g w σ a) (hb : Below w.heap.size w w') (hM : MLe g.M M') (hn : ∀ b o v, M' b o = some v → g.M b o = some v ∨ w.heap.size ≤ b) : Tmps (g.more M') w' σ a :=
  ⟨h.1, h.2.1, fun t x hx => ⟨(h.2.2.1 t x hx).1, (h.2.2.1 t x hx).2.more hw hb hM hn⟩, h.2.2.2⟩

/-- A token from outside. -/
def GS.tok (g : GS) (d : Nat) (ob : Option Nat) : GS := { g with φ := fun t => if t = d then none else g.φ t, κ := fun t => if t = d then some ob else g.κ t }

theorem tok_rel (h1 : Wf g w σ.b σ.k) (h2 : Tmps g w σ a) (h3 : Ext E.g E.w g w) (hd : d < σ.n) (hd' : d < 999999) {sz : Nat} {xs : List AV} {u : Value} {ob : Option Nat} (hR : R g.M (.sl sz xs) u) (hT : Tok g.M w ob sz xs.length u)
    (hob : ∀ b, ob = some b → E.w.heap.size ≤ b ∧ b < w.heap.size ∧ ¬ g.X b ∧ b ∉ g.D) : Rel E (σ.newTok d sz xs) (a.put (some d) u) w := by
  have kφ : ∀ {t c}, (g.tok d ob).φ t = some c → t ≠ d ∧ g.φ t = some c := fun {t c} ht => by simp only [GS.tok] at ht; split at ht <;> simp_all
  have kκ : ∀ {t c}, (g.tok d ob).κ t = some (some c) → (t = d ∧ ob = some c) ∨ (t ≠ d ∧ g.κ t = some (some c)) := fun {t c} ht => by simp only [GS.tok] at ht; split at ht <;> simp_all
  have keep : ∀ {y : TV} {u : Value}, RT g w y u → RT (g.tok d ob) w (y.kill d) u := fun {y u} hy =>
    RT.keepK (g := g) (g' := g.tok d ob) (w := w) (fun _ _ _ h => h) (fun t b ht hb => by simp [GS.tok, ht, hb]) (fun t ob ht hob => ⟨by simpa [GS.tok, ht] using hob, fun _ _ => ⟨rfl, fun _ h => h⟩⟩) hy
  refine ⟨g.tok d ob, ?_, ?_, ?_⟩
  · exact
    { mem := h1.mem
      box := fun t cs' ht => by
        obtain ⟨e1, cs, e2, rfl⟩ := get_killB d t σ.b cs' ht
        obtain ⟨b, vs, e, q1, q2, q3, q4, q5⟩ := h1.box t cs e2
        refine ⟨b, vs, e, by simp [GS.tok, e1, q1], q2, by simpa using q3, fun j c v hc hv => ?_, q5⟩
        rw [← killL_map] at hc
        obtain ⟨c0, h0, rfl⟩ := getElem?_killL hc
        exact ⟨keep (q4 j c0 v h0 hv).1, (q4 j c0 v h0 hv).2⟩
      ij := fun t t' b ht ht' => h1.ij t t' b (kφ ht).2 (kφ ht').2
      ik := fun t t' b ht ht' => by
        rcases kκ ht with ⟨a1, a2⟩ | ⟨a1, a2⟩ <;> rcases kκ ht' with ⟨c1, c2⟩ | ⟨c1, c2⟩
        · rw [a1, c1]
        · exact absurd (.inr ⟨t', c2⟩) (hob b a2).2.2.1
        · exact absurd (.inr ⟨t, a2⟩) (hob b c2).2.2.1
        · exact h1.ik t t' b a2 c2
      ap := fun t t' b ht ht' => by
        rcases kκ ht' with ⟨c1, c2⟩ | ⟨c1, c2⟩
        · exact absurd (.inl ⟨t, (kφ ht).2⟩) (hob b c2).2.2.1
        · exact h1.ap t t' b (kφ ht).2 c2
      ltφ := fun t b ht => h1.ltφ t b (kφ ht).2
      ltκ := fun t b ht => by
        rcases kκ ht with ⟨c1, c2⟩ | ⟨c1, c2⟩
        · exact (hob b c2).2.1
        · exact h1.ltκ t b c2
      nφ := fun t b o ht => h1.nφ t b o (kφ ht).2
      live := fun t ht => by
        simp only [AS.newTok, List.mem_cons] at ht
        rcases ht with rfl | ht
        · simp [GS.tok]
        · obtain ⟨e1, e2⟩ := mem_killK d t σ.k ht
          simpa [GS.tok, e1] using h1.live t e2
      dfr := h1.dfr
      dnd := h1.dnd
      dX := fun j hj hx => by
        rcases hx with ⟨t, ht⟩ | ⟨t, ht⟩
        · exact h1.dX j hj (.inl ⟨t, (kφ ht).2⟩)
        · rcases kκ ht with ⟨c1, c2⟩ | ⟨c1, c2⟩
          · exact (hob j c2).2.2.2 hj
          · exact h1.dX j hj (.inr ⟨t, c2⟩) }
  · refine Tmps.cons (σ := σ) (ts := killT d σ.t) ?_ hd ?_
    · refine ⟨h2.1, h2.2.1, fun t y hy => ?_, by simp only [GS.tok]; rw [if_neg (by omega)]; exact h2.2.2.2⟩
      simp only [get_killT] at hy
      cases hg : get t σ.t with
      | none => simp [hg] at hy
      | some z =>
        simp only [hg, Option.map_some, Option.some.injEq] at hy
        subst hy
        exact ⟨(h2.2.2.1 t z hg).1, keep (h2.2.2.1 t z hg).2⟩
    · exact .ap sz xs d _ hR fun ob' hob' => by simp only [GS.tok, if_true, Option.some.injEq] at hob'; subst hob'; exact hT
  · exact
    { h3 with
      φ := fun t b ht hb => by simp only [GS.tok]; rw [if_neg (by omega)]; exact h3.φ t b ht hb
      φn := fun t b hb => h3.φn t b (kφ hb).2
      κn := fun t b hb => by
        rcases kκ hb with ⟨c1, c2⟩ | ⟨c1, c2⟩
        · exact .inl (hob b c2).1
        · exact h3.κn t b c2 }

/-- The state behind a call. -/
def AS.ret (σ : AS) (d : Option Nat) (r : TV) : Option AS :=
  match d with
  | none => some σ
  | some d =>
    if d < σ.n ∧ d < 999999 then
      match r with
      | .ap sz xs _ => some (σ.newTok d sz xs)
      | r => some (σ.put d r)
    else none

theorem ret_rel (h1 : Wf g w σ.b σ.k) (h2 : Tmps g w σ a) (h3 : Ext E.g E.w g w) {dst : Option Nat} {r : TV} (hr : σ.ret dst r = some σ')
    (hb : Below w.heap.size w w') (hM : MLe g.M M') (hn : ∀ b o v, M' b o = some v → g.M b o = some v ∨ w.heap.size ≤ b) (hm : MemOk M' w') (hv : ResP M' w w' r v) : Rel E σ' (a.put dst v) w' := by
  have w1 := h1.more hb hM hn hm
  have w2 := h2.more h1 hb hM hn
  have w3 := h3.more hb hM hn
  unfold AS.ret at hr
  split at hr
  · cases hr; exact ⟨_, w1, w2, w3⟩
  · rename_i d
    split at hr
    · rename_i hd
      have hsz := h3.size
      cases hv with
      | v x u hR =>
        cases hr
        exact ⟨_, w1, Tmps.cons w2 hd.1 (.v _ _ hR), w3⟩
      | ap sz xs s u ob hR hT hob =>
        cases hr
        refine tok_rel w1 w2 w3 hd.1 hd.2 hR hT fun b hbb => ?_
        obtain ⟨q1, q2⟩ := hob b hbb
        refine ⟨by omega, q2, ?_, fun hj => by have := (Array.getElem?_eq_some_iff.1 (h1.dfr b hj)).1; omega⟩
        rintro (⟨s, hs⟩ | ⟨s, hs⟩)
        · have := h1.ltφ s b hs; omega
        · have := h1.ltκ s b hs; omega
      | tup cs vs hn' hR =>
        cases hr
        refine ⟨_, w1, Tmps.cons w2 hd.1 (.tup _ vs (by simpa using hn') fun j c v hc hv => ?_), w3⟩
        rw [List.getElem?_map] at hc
        cases hcj : cs[j]? with
        | none => simp [hcj] at hc
        | some y =>
          simp only [hcj, Option.map_some, Option.some.injEq] at hc
          subst hc
          exact .v _ _ (hR j y v hcj hv)
    · cases hr
end
end Go.Proofs.YtenigafbbdjagaaDoor.AL

/- Regions in order: the rule; branches. -/
namespace Go.Proofs.YtenigafbbdjagaaDoor.AL
open Go Go.RowKit
set_option linter.unusedVariables false
set_option linter.unusedSimpArgs false

def fnOf : TV → Option (FuncId × List AV)
  | .v (.fn f cs) => some (f, cs)
  | .fn f cs => (TV.dat.datL cs).map fun as => (f, as)
  | _ => none

def datArgs (P : Program) (σ : AS) : List Operand → List TypeId → Option (List AV)
  | [], _ => some []
  | x :: xs, t :: ts => match (evT P t σ x).dat, datArgs P σ xs ts with | some a, some as => some (a :: as) | _, _ => none
  | x :: xs, [] => match (ev σ x).dat, datArgs P σ xs [] with | some a, some as => some (a :: as) | _, _ => none

/-- A function's contract, and what its result leads to. -/
def CallK (P : Program) (f : FuncId) (args : List AV) (σ : AS) (dst : Option Nat) (K : AS → Prop) : Prop :=
  ∃ r, FC P f args r ∧ ∃ σ', σ.ret dst r = some σ' ∧ K σ'

def OptK (s : Option AS) (K : AS → Prop) : Prop := ∃ σ', s = some σ' ∧ K σ'

def StepS (P : Program) (σ : AS) (o : Oper) (K : AS → Prop) : Prop :=
  match o.op with
  | .call { callee := .value f, args, argTypes } =>
    match fnOf (ev σ f), datArgs P σ args.toList argTypes.toList with
    | some (fid, caps), some as => CallK P fid (as ++ caps) σ o.dst K
    | _, _ => False
  | _ => OptK (stepOp P σ o) K

/-- A step told by what the machine does. -/
def Leads (P : Program) (σ : AS) (o : Oper) (K : AS → Prop) : Prop :=
  ∀ (ro : Option Nat) (n : Nat) (E : E0) (a : Act) (w : World) (K' : Act → World → Prop) (Q' : Exit → Act → World → Prop), Rel E σ a w →
    (∀ σ' a' w', K σ' → Rel E σ' a' w' → K' a' w') → o.wpIn (Fw ro) n P a w K' Q'
def StepP (P : Program) (σ : AS) (o : Oper) (K : AS → Prop) : Prop := StepS P σ o K ∨ Leads P σ o K

def AS.skip (σ : AS) (d : Option Nat) (K : AS → Prop) : Prop :=
  match d with
  | none => K σ
  | some d => d < σ.n ∧ K (σ.put d (.tup []))

/-- Is an operation wanted? -/
def wantA (ops : List Oper) (σ : AS) (o : Oper) : Option Bool :=
  match o.guard with
  | none => some true
  | some (j, want) =>
    match (ops[j]?).bind (·.dst) with
    | some d => match get d σ.t with | some (.v (.bool b)) => some (b == want) | some (.tup []) => some false | _ => none
    | none => none

def WantK (b : Option Bool) (X Y : Prop) : Prop := ∃ c, b = some c ∧ (c = true → X) ∧ (c = false → Y)

def SeqOps (P : Program) (ops : List Oper) : List Oper → AS → (AS → Prop) → Prop
  | [], σ, K => K σ
  | o :: rest, σ, K => WantK (wantA ops σ o) (StepP P σ o fun σ' => SeqOps P ops rest σ' K) (σ.skip o.dst fun σ' => SeqOps P ops rest σ' K)

section
variable {P : Program} {ro : Option Nat} {n : Nat} {E : E0} {g : GS} {w w' : World} {σ σ' : AS} {a : Act} {o : Oper} {d : Nat} {x : TV} {v : Value} {M M' : Mem} {Q : Exit → AS → Prop}

theorem datArgs_ok (h : Tmps g w σ a) : ∀ {xs : List Operand} {ts : List TypeId} {as : List AV}, datArgs P σ xs ts = some as → xs.length = as.length ∧ ∀ (j : Nat) y v, as[j]? = some y → (xs.map a.eval)[j]? = some v → R g.M y v
  | [], ts, as, h0 => by simp only [datArgs, Option.some.injEq] at h0; subst h0; exact ⟨rfl, fun j y v hy => by simp at hy⟩
  | x :: xs, t :: ts, as, h0 => by
    simp only [datArgs] at h0
    split at h0
    · rename_i y as' h1 h2
      cases h0
      obtain ⟨q1, q2⟩ := datArgs_ok h h2
      refine ⟨by simp [q1], fun j z v hz hv => ?_⟩
      cases j with
      | zero => simp at hz hv; subst hz; subst hv; exact (evT_rt (P := P) (t := t) h x).dat h1
      | succ j => simp at hz hv; exact q2 j z v hz (by simpa using hv)
    · cases h0
  | x :: xs, [], as, h0 => by
    simp only [datArgs] at h0
    split at h0
    · rename_i y as' h1 h2
      cases h0
      obtain ⟨q1, q2⟩ := datArgs_ok h h2
      refine ⟨by simp [q1], fun j z v hz hv => ?_⟩
      cases j with
      | zero => simp at hz hv; subst hz; subst hv; exact (ev_rt h x).dat h1
      | succ j => simp at hz hv; exact q2 j z v hz (by simpa using hv)
    · cases h0

theorem fnOf_ok (h : RT g w x v) {f : FuncId} {cs : List AV} (hf : fnOf x = some (f, cs)) : ∃ vs, v = .func (.func f) #[] vs ∧ cs.length = vs.size ∧ ∀ (j : Nat) y u, cs[j]? = some y → vs[j]? = some u → R g.M y u := by
  have key : ∀ (f : FuncId) (cs : List AV), R g.M (.fn f cs) v → ∃ vs, v = .func (.func f) #[] vs ∧ cs.length = vs.size ∧ ∀ (j : Nat) y u, cs[j]? = some y → vs[j]? = some u → R g.M y u := fun f cs hR => by
    cases hR with
    | fn f cs vs hn hh => exact ⟨vs, rfl, hn, hh⟩
  unfold fnOf at hf
  split at hf
  · cases hf; exact key _ _ (v_inv h)
  · obtain ⟨as, has, e⟩ := Option.map_eq_some_iff.1 hf
    cases e
    exact key _ _ (h.dat (by simp [TV.dat, has]))
  · cases hf

theorem fenceW (o : Oper) (w : World) (ρ : Operand → Value) : ∀ f, o.about P w ρ = some f → (Fw ro).fn f := fun _ _ => trivial

theorem goes_wpIn {K : Act → World → Prop} {Q' : Exit → Act → World → Prop} (hdf : ∀ c, o.op ≠ .defer c) (h : Goes P E σ' a o w) (hK : ∀ v w', Rel E σ' (a.put o.dst v) w' → K (a.put o.dst v) w') : o.wpIn (Fw ro) n P a w K Q' := by
  obtain ⟨v, w', h1, h2⟩ := h
  refine ⟨fenceW o w _, ?_⟩
  rw [show o.semAt (Fw ro).round a.eval = execOp a.eval o from Oper.semAt_eq _ _ _ hdf]
  rcases h1 with h1 | ⟨h1, rfl⟩ <;> rw [h1] <;> exact hK _ _ h2

theorem stepOp_defer (h : stepOp P σ o = some σ') : ∀ c, o.op ≠ .defer c := by
  intro c hc
  unfold stepOp at h
  split at h
  · split at h
    · simp [evalP, stepE, hc] at h
    · cases h
  · simp [hc] at h

theorem step_ok {K : AS → Prop} {K' : Act → World → Prop} {Q' : Exit → Act → World → Prop} (hr : Rel E σ a w) (h : StepP P σ o K) (hK : ∀ σ' a' w', K σ' → Rel E σ' a' w' → K' a' w') : o.wpIn (Fw ro) n P a w K' Q' := by
  rcases h with h | h
  case inr => exact h ro n E a w K' Q' hr hK
  have gen : OptK (stepOp P σ o) K → o.wpIn (Fw ro) n P a w K' Q' := by
    rintro ⟨σ', hs, hk⟩
    exact goes_wpIn (stepOp_defer hs) (stepOp_ok hr hs) fun v w' hr' => hK _ _ _ hk hr'
  cases hop : o.op with
  | call c =>
    obtain ⟨callee, args, ats⟩ := c
    cases callee with
    | value f =>
      simp only [StepS, hop] at h
      split at h
      · rename_i fid caps as hf has
        obtain ⟨r, ⟨hent, hfc⟩, σ', hret, hk⟩ := h
        obtain ⟨g, h1, h2, h3⟩ := hr
        obtain ⟨vs, hfv, hcn, hcR⟩ := fnOf_ok (ev_rt h2 f) hf
        obtain ⟨han, haR⟩ := datArgs_ok h2 has
        have hcall := hfc g.M w (args.map a.eval ++ vs) h1.mem (E.tabAt h3) (by simp [← han, hcn]) (fun j y v hy hv => by
          rw [List.getElem?_append] at hy
          rw [Array.getElem?_append] at hv
          have e1 : (args.map a.eval).size = as.length := by simp [← han]
          rw [e1] at hv
          split at hy
          · rename_i hj
            rw [if_pos hj] at hv
            exact haR j y v hy (by simpa using hv)
          · rename_i hj
            rw [if_neg hj] at hv
            exact hcR _ y v hy hv)
        refine ⟨fenceW o w _, ?_⟩
        rw [show o.semAt (Fw ro).round a.eval = execOp a.eval o from Oper.semAt_eq _ _ _ (by simp [hop])]
        have hrun : (execOp a.eval o).run P w = .ok (.enter fid (args.map a.eval ++ vs)) w := by
          simp only [execOp, hop, Sem.run_bind, resolve, hfv]
          simp [Deferred.ofValue, invoke, hent]
        rw [hrun]
        refine ⟨fun hd => by simp [Fw, Fence.wide] at hd, ?_⟩
        show CallsIn Fence.wide (n - 1) P fid _ w _
        refine callsIn_wide.2 (hcall.mono ?_)
        rintro e w' ⟨v, M', rfl, hb, hM, hn, hm, hv⟩
        exact hK _ _ _ hk (ret_rel h1 h2 h3 hret hb hM hn hm hv)
      · exact h.elim
    | _ => simp only [StepS, hop] at h; exact gen h
  | _ => simp only [StepS, hop] at h; exact gen h

theorem want_okT (h2 : Tmps g w σ a) {ops : Array Oper} {c : Bool} (h : wantA ops.toList σ o = some c) : Region.wanted o (yielded ops a.tmps) = c := by
  unfold wantA at h
  unfold Region.wanted
  split at h
  · rename_i hg
    cases h
    simp [hg]
  · rename_i j want hg
    simp only [hg]
    split at h
    · rename_i d hd
      split at h
      · rename_i b hb
        cases h
        obtain ⟨q1, q2⟩ := h2.2.2.1 d _ hb
        have hv := bool_inv (v_inv q2)
        have hsz : d < a.tmps.size := by rw [h2.2.1]; exact q1
        have hd' : (ops[j]?).bind (·.dst) = some d := by simpa using hd
        have : yielded ops a.tmps j = some b := by
          unfold yielded
          rw [hd']
          simp only [Option.bind_some]
          rw [Array.getD_eq_getD_getElem?] at hv
          have hg' : a.tmps[d]? = some a.tmps[d] := by simp [hsz]
          rw [hg'] at hv ⊢
          simp only [Option.getD_some] at hv
          rw [hv]
        rw [this]
        cases b <;> cases want <;> rfl
      · rename_i hb
        cases h
        obtain ⟨q1, q2⟩ := h2.2.2.1 d _ hb
        have hv : a.tmps.getD d Go.undef = .tuple #[] := by
          generalize a.tmps.getD d Go.undef = u at q2
          cases q2 with
          | tup cs vs hn hh =>
            have : vs = #[] := by
              apply Array.eq_empty_of_size_eq_zero
              simpa using hn.symm
            rw [this]
        have hsz : d < a.tmps.size := by rw [h2.2.1]; exact q1
        have hd' : (ops[j]?).bind (·.dst) = some d := by simpa using hd
        have : yielded ops a.tmps j = none := by
          unfold yielded
          rw [hd']
          simp only [Option.bind_some]
          rw [Array.getD_eq_getD_getElem?] at hv
          have hg' : a.tmps[d]? = some a.tmps[d] := by simp [hsz]
          rw [hg'] at hv ⊢
          simp only [Option.getD_some] at hv
          rw [hv]
        rw [this]
        cases want <;> rfl
      · cases h
    · cases h
theorem want_ok (hr : Rel E σ a w) {ops : Array Oper} {c : Bool} (h : wantA ops.toList σ o = some c) : Region.wanted o (yielded ops a.tmps) = c := by
  obtain ⟨g, _, h2, _⟩ := hr
  exact want_okT h2 h


theorem skip_ok (hr : Rel E σ a w) {dst : Option Nat} {K : AS → Prop} (h : σ.skip dst K) : ∃ σ', K σ' ∧ Rel E σ' (a.put dst Go.undef) w := by
  unfold AS.skip at h
  split at h
  · exact ⟨σ, h, hr⟩
  · obtain ⟨h1, h2⟩ := h
    exact ⟨_, h2, hr.put h1 fun _ _ _ => .tup [] #[] rfl (fun j c v h => by simp at h)⟩

theorem seq_ok {ops : Array Oper} {K : AS → Prop} {Q' : Exit → Act → World → Prop} (hK : ∀ σ' a' w', K σ' → Rel E σ' a' w' → Q' .normal a' w') :
    ∀ (rest pre : List Oper) (σ : AS) (a : Act) (w : World), ops.toList = pre ++ rest → SeqOps P ops.toList rest σ K → Rel E σ a w → wpOpsIn (Fw ro) n P ops Q' (List.range' pre.length rest.length) a w := by
  intro rest
  induction rest with
  | nil => intro pre σ a w _ h hr; exact hK _ _ _ h hr
  | cons o rest ih =>
    intro pre σ a w he h hr
    obtain ⟨c, hc, h1, h2⟩ := h
    have hat : ops[pre.length]? = some o := by
      have : ops.toList[pre.length]? = some o := by rw [he]; simp
      simpa using this
    have hw := want_ok hr hc
    simp only [List.length_cons, List.range'_succ, wpOpsIn, hat]
    have next : ∀ σ' a' w', SeqOps P ops.toList rest σ' K → Rel E σ' a' w' → wpOpsIn (Fw ro) n P ops Q' (List.range' (pre.length + 1) rest.length) a' w' := fun σ' a' w' hs hr' => by
      have := ih (pre ++ [o]) σ' a' w' (by rw [he]; simp) hs hr'
      simpa using this
    cases c with
    | true => rw [if_pos hw]; exact step_ok hr (h1 rfl) next
    | false =>
      rw [if_neg (by simp [hw])]
      obtain ⟨σ', hs, hr'⟩ := skip_ok hr (h2 rfl)
      exact ⟨fenceW o w _, next _ _ _ hs hr'⟩

theorem tri_region {id : Nat} {ops : List Oper} (h : SeqOps P ops ops σ (fun s => Q .normal s)) : Tri P ro n (.region id ops.toArray false) σ Q := by
  intro E hE a w hr
  refine wpIn_region ?_
  have := seq_ok (P := P) (ro := ro) (n := n) (E := E) (ops := ops.toArray) (K := fun s => Q .normal s) (Q' := fun e a' w' => ∃ σ', Q e σ' ∧ Rel E σ' a' w') (fun σ' a' w' hq hr' => ⟨σ', hq, hr'⟩) ops [] σ a w (by simp) (by simpa using h) hr
  simpa [List.range_eq_range'] using this

theorem tri_cond {c : Operand} {x y : Code} {t : Bool} (hc : ev σ c = .v (.bool t)) (h1 : t = true → Tri P ro n x σ Q) (h2 : t = false → Tri P ro n y σ Q) : Tri P ro n (.cond c x y) σ Q := by
  intro E hE a w hr
  obtain ⟨g, w1, w2, w3⟩ := hr
  have hv := ev_rt w2 c
  rw [hc] at hv
  have := bool_inv (v_inv hv)
  refine wpIn_cond_split this (fun ht => h1 ht E hE a w ⟨g, w1, w2, w3⟩) (fun ht => h2 ht E hE a w ⟨g, w1, w2, w3⟩)

/-! ### Less known; a variable frozen -/
structure Le (s s' : AS) : Prop where
  n : s.n = s'.n
  t : ∀ p ∈ s.t, get p.1 s'.t = some p.2
  b : ∀ p ∈ s.b, get p.1 s'.b = some p.2
  k : ∀ x ∈ s.k, memK x s'.k = true

theorem get_mem {α : Type} {k : Nat} {l : List (Nat × α)} {x : α} (h : get k l = some x) : (k, x) ∈ l := by
  induction l with
  | nil => simp [get] at h
  | cons p l ih =>
    obtain ⟨m, y⟩ := p
    simp only [get] at h
    cases hm : k == m
    · simp only [hm, cond_false] at h; exact List.mem_cons_of_mem _ (ih h)
    · simp only [hm, cond_true, Option.some.injEq] at h
      simp only [beq_iff_eq] at hm
      subst hm; subst h; simp

theorem Rel.le {s : AS} (h : Rel E σ a w) (hl : Le s σ) : Rel E s a w := by
  obtain ⟨g, h1, h2, h3⟩ := h
  refine ⟨g, ?_, ?_, h3⟩
  · exact { h1 with
            box := fun t cs ht => h1.box t cs (hl.b _ (get_mem ht))
            live := fun t ht => h1.live t (memK_mem (hl.k t ht)) }
  · refine ⟨h2.1, by rw [hl.n]; exact h2.2.1, fun t y hy => ?_, h2.2.2.2⟩
    have := h2.2.2.1 t y (hl.t _ (get_mem hy))
    rw [hl.n]; exact this

theorem tri_le {c : Code} {s : AS} (hl : Le s σ) (h : Tri P ro n c s Q) : Tri P ro n c σ Q := fun E hE a w hr => h E hE a w (hr.le hl)

def LeT {α : Type} : List (Nat × α) → List (Nat × α) → Prop
  | [], _ => True
  | (k, x) :: l, t => get k t = some x ∧ LeT l t
def LeK : List Nat → List Nat → Prop
  | [], _ => True
  | x :: l, t => memK x t = true ∧ LeK l t
theorem leT_at {α : Type} {l t : List (Nat × α)} (h : LeT l t) : ∀ p ∈ l, get p.1 t = some p.2 := by
  induction l with
  | nil => intro p hp; cases hp
  | cons q l ih =>
    obtain ⟨k, x⟩ := q
    intro p hp
    rcases List.mem_cons.1 hp with rfl | hp
    · exact h.1
    · exact ih h.2 p hp
theorem leK_at {l t : List Nat} (h : LeK l t) : ∀ x ∈ l, memK x t = true := by
  induction l with
  | nil => intro p hp; cases hp
  | cons q l ih =>
    intro p hp
    rcases List.mem_cons.1 hp with rfl | hp
    · exact h.1
    · exact ih h.2 p hp
theorem le_of {s : AS} (hn : s.n = σ.n) (ht : LeT s.t σ.t) (hb : LeT s.b σ.b) (hk : LeK s.k σ.k) : Le s σ := ⟨hn, leT_at ht, leT_at hb, leK_at hk⟩

/-- A loop by its states. -/
theorem tri_for {c : Code} {α : Type} (St : α → AS) (Inv : α → Prop) (μ : α → Nat) (x0 : α) (hl : Le (St x0) σ) (h0 : Inv x0)
    (round : ∀ x, Inv x → Tri P ro n c (St x) (thenQ (fun s' => ∃ x', Inv x' ∧ μ x' < μ x ∧ Le (St x') s') Q)) : Tri P ro n (.loop c) σ Q := by
  refine tri_loop (fun m s => ∃ x, Inv x ∧ μ x = m ∧ Le (St x) s) (μ x0) ⟨x0, h0, rfl, hl⟩ ?_
  · rintro m s ⟨x, hI, rfl, hle⟩
    refine tri_le hle ((round x hI).mono ?_)
    intro e s' hq
    cases e with
    | normal => obtain ⟨x', h1, h2, h3⟩ := hq; exact ⟨_, h2, x', h1, rfl, h3⟩
    | _ => exact hq

/-- A slice that there is has no more elements than a number counts. -/
theorem tri_len {c : Code} (t : Nat) {sz : Nat} {xs : List AV} (ht : ((get t σ.t).getD .undef).dat = some (.sl sz xs)) (h : xs.length ≤ 9223372036854775807 → Tri P ro n c σ Q) : Tri P ro n c σ Q := by
  intro E hE a w hr
  have hr' := hr
  obtain ⟨g, h1, h2, h3⟩ := hr
  have hx : RT g w ((get t σ.t).getD .undef) (a.eval (.tmp t)) := ev_rt h2 (.tmp t)
  refine h ?_ E hE a w hr'
  rcases sl_inv (hx.dat ht) with ⟨rfl, _⟩ | ⟨b, off, cap, vs, _, q1, q2, _⟩
  · simp
  · unfold maxLen at q2; omega

def AS.frz (σ : AS) (s : Nat) (cells : List AV) : AS := ⟨σ.n, frzT s cells σ.t, frzB s cells σ.b, σ.k⟩

theorem Rel.frz (h : Rel E σ a w) {s : Nat} (hs : s < 1000000) {cs : List TV} {cells : List AV} (hb : get s σ.b = some cs) (hc : TV.dat.datL cs = some cells) : Rel E (σ.frz s cells) a w := by
  obtain ⟨g, h1, h2, h3⟩ := h
  obtain ⟨b, vs, e, q1, q2, q3, q4, q5⟩ := h1.box s cs hb
  obtain ⟨l1, l2⟩ := datL_at hc
  have hR : ∀ (j : Nat) c v, cells[j]? = some c → vs[j]? = some v → R g.M c v ∧ v.oneCell' = true := fun j c v hj hv => by
    obtain ⟨c', hc', hd⟩ := l2 j c hj
    exact ⟨(q4 j c' v hc' hv).1.dat hd, (q4 j c' v hc' hv).2⟩
  refine ⟨g.frz s b vs, h1.frz q1 q2 (by rw [← l1]; exact q3) hR, ⟨h2.1, h2.2.1, fun t y hy => ?_, h2.2.2.2⟩, h3.frz h1 q1 hs⟩
  simp only [AS.frz, get_frzT] at hy
  cases hg : get t σ.t with
  | none => simp [hg] at hy
  | some z =>
    simp only [hg, Option.map_some, Option.some.injEq] at hy
    subst hy
    exact ⟨(h2.2.2.1 t z hg).1, (h2.2.2.1 t z hg).2.frz h1 q1 (by rw [← l1]; exact q3) (fun j c v a b => (hR j c v a b).1)⟩

theorem tri_frz {c : Code} (s : Nat) {cs : List TV} {cells : List AV} (hs : s < 1000000) (hb : get s σ.b = some cs) (hc : TV.dat.datL cs = some cells) (h : Tri P ro n c (σ.frz s cells) Q) : Tri P ro n c σ Q :=
  fun E hE a w hr => h E hE a w (hr.frz hs hb hc)
end
end Go.Proofs.YtenigafbbdjagaaDoor.AL

/- What a run knows stays, whatever others make of blocks that are not its own; the marks of ranges are taken at the end. -/
namespace Go.Proofs.YtenigafbbdjagaaDoor.AL
open Go Go.RowKit
set_option linter.unusedVariables false
set_option linter.unusedSimpArgs false

section
variable {P : Program} {E : E0} {g : GS} {w w' : World} {σ σ' : AS} {a : Act} {x : TV} {v : Value} {M M' : Mem} {bx : List (Nat × List TV)} {k : List Nat}

theorem Wf.notD (hw : Wf g w bx k) {j : Nat} (hj : j ∈ g.D) {vs : Array Value} {e : TypeId} {q : Nat × Nat} : w.heap[j]? ≠ some (.cells vs e q) := by
  rw [hw.dfr j hj]; intro h; cases h

/-- More that never turns; other marks. -/
def GS.re (g : GS) (M' : Mem) (D' : List Nat) : GS := { g with M := M', D := D' }

theorem RT.fgn {D' : List Nat} (hs : ∀ j, j < w.heap.size → g.X j → w'.heap[j]? = w.heap[j]?) (hlt : ∀ s b, g.κ s = some (some b) → b < w.heap.size) (hM : MLe g.M M') (hn : ∀ b o v, M' b o = some v → g.M b o = some v ∨ ¬ g.X b) (h : RT g w x v) : RT (g.re M' D') w' x v :=
  RT.keep (g := g) (g' := g.re M' D') (w := w) hM (fun _ _ h => h) (fun s ob hs' => ⟨hs', fun b hb' => by
    subst hb'
    refine ⟨hs b (hlt s b hs') (.inr ⟨s, hs'⟩), fun o ho => ?_⟩
    cases hv : M' b o with
    | none => exact hv
    | some v =>
      rcases hn b o v hv with h1 | h1
      · rw [ho] at h1; cases h1
      · exact absurd (.inr ⟨s, hs'⟩) h1⟩) h

theorem Wf.fgn {D' : List Nat} (hw : Wf g w bx k) (hs : ∀ j, j < w.heap.size → g.X j → w'.heap[j]? = w.heap[j]?) (hz : w.heap.size ≤ w'.heap.size) (hM : MLe g.M M') (hn : ∀ b o v, M' b o = some v → g.M b o = some v ∨ ¬ g.X b) (hm : MemOk M' w')
    (hd : ∀ j ∈ D', w'.heap[j]? = some (.deferred (some []))) (hnd : D'.Nodup) (hdx : ∀ j ∈ D', ¬ g.X j) : Wf (g.re M' D') w' bx k where
  mem := hm
  box := fun t cs ht => by
    obtain ⟨b, vs, e, q1, q2, q3, q4, q5⟩ := hw.box t cs ht
    have hlt := hw.ltφ t b q1
    refine ⟨b, vs, e, q1, by rw [hs b hlt (.inl ⟨t, q1⟩)]; exact q2, q3, fun j c v hc hv => ⟨(q4 j c v hc hv).1.fgn hs hw.ltκ hM hn, (q4 j c v hc hv).2⟩, fun o => ?_⟩
    show M' b o = none
    cases hv : M' b o with
    | none => rfl
    | some v =>
      rcases hn b o v hv with h1 | h1
      · rw [q5 o] at h1; cases h1
      · exact absurd (.inl ⟨t, q1⟩) h1
  ij := hw.ij
  ik := hw.ik
  ap := hw.ap
  ltφ := fun t b ht => Nat.lt_of_lt_of_le (hw.ltφ t b ht) hz
  ltκ := fun t b ht => Nat.lt_of_lt_of_le (hw.ltκ t b ht) hz
  nφ := fun t b o ht => by
    show M' b o = none
    cases hv : M' b o with
    | none => rfl
    | some v =>
      rcases hn b o v hv with h1 | h1
      · rw [hw.nφ t b o ht] at h1; cases h1
      · exact absurd (.inl ⟨t, ht⟩) h1
  live := hw.live
  dfr := hd
  dnd := hnd
  dX := hdx

theorem Tmps.fgn {D' : List Nat} {a' : Act} (hw : Wf g w bx k) (h : Tmps g w σ a) (ha : a'.tmps = a.tmps) (hd : a'.defers = D'.map mkD) (hs : ∀ j, j < w.heap.size → g.X j → w'.heap[j]? = w.heap[j]?) (hM : MLe g.M M') (hn : ∀ b o v, M' b o = some v → g.M b o = some v ∨ ¬ g.X b) : Tmps (g.re M' D') w' σ a' :=
  ⟨hd, by rw [ha]; exact h.2.1, fun t x hx => ⟨(h.2.2.1 t x hx).1, by rw [ha]; exact (h.2.2.1 t x hx).2.fgn hs hw.ltκ hM hn⟩, h.2.2.2⟩

theorem Ext.fgn {D' : List Nat} {g0 : GS} {w0 : World} (h : Ext g0 w0 g w) (hs : ∀ j, j < w0.heap.size → ¬ g0.X j → w'.heap[j]? = w.heap[j]?) (hz : w.heap.size ≤ w'.heap.size) (ho : w'.os = w.os) (ht : w'.tape = w.tape) (hp : w'.output = w.output)
    (hM : MLe g.M M') (hn : ∀ b o v, M' b o = some v → g.M b o = some v ∨ w0.heap.size ≤ b ∨ g0.X b) (hd : ∀ j ∈ D', w0.heap.size ≤ j ∨ j ∈ g0.D) : Ext g0 w0 (g.re M' D') w' where
  M := h.M.trans hM
  Mn := fun b o v hv => by
    rcases hn b o v hv with h1 | h1
    · exact h.Mn b o v h1
    · exact .inr h1
  φ := h.φ
  φn := h.φn
  κn := h.κn
  heap := fun j hj hx => by rw [hs j hj hx]; exact h.heap j hj hx
  size := Nat.le_trans h.size hz
  os := ho.trans h.os
  tape := ht.trans h.tape
  output := hp.trans h.output
  dn := hd

/-- The marks at a function's end: nothing waits in their blocks. -/
theorem takes {F : Fence} {n : Nat} {fn : Func} {tmps : Array Value} {R : Ending → World → Prop} : ∀ (Ds : List Nat) (w : World), Ds.Nodup → (∀ j ∈ Ds, w.heap[j]? = some (.deferred (some []))) →
    (∀ w' : World, (∀ j, j ∉ Ds → w'.heap[j]? = w.heap[j]?) → w'.heap.size = w.heap.size → w'.os = w.os → w'.tape = w.tape → w'.output = w.output → LeavesIn F n P fn tmps R [] .returning w') →
    LeavesInM F n P fn tmps R (Ds.map mkD) .returning w
  | [], w, _, _, h => h w (fun _ _ => rfl) rfl rfl rfl rfl
  | D :: Ds, w, hnd, hd, h => by
    obtain ⟨h1, h2⟩ := List.nodup_cons.1 hnd
    refine ⟨by simp, .inl ⟨D, w.putObj D (.deferred none), rfl, run_takeDeferred (hd D (by simp)), ?_⟩⟩
    have hne : ∀ j ∈ Ds, j ≠ D := fun j hj e => h1 (e ▸ hj)
    refine takes Ds _ h2 (fun j hj => by rw [World.putObj_heap_other (hne j hj)]; exact hd j (by simp [hj])) fun w' q1 q2 q3 q4 q5 => ?_
    refine h w' (fun j hj => ?_) (by rw [q2]; simp [World.putObj]) q3 q4 q5
    simp only [List.mem_cons, not_or] at hj
    rw [q1 j hj.2, World.putObj_heap_other hj.1]
end
end Go.Proofs.YtenigafbbdjagaaDoor.AL

/- A function's contract, from its body. -/
namespace Go.Proofs.YtenigafbbdjagaaDoor.AL
open Go Go.RowKit
set_option linter.unusedVariables false
set_option linter.unusedSimpArgs false

def argT : Nat → List AV → List (Nat × TV)
  | _, [] => []
  | i, x :: l => (i, .v x) :: argT (i + 1) l

def res1 (P : Program) (s : AS) : ResultVar → Option TV
  | .tmp t => get t s.t
  | .cell t ty => evalP P s { dst := none, op := .load ty (.tmp t), type := 0, pos := "", after := #[], guard := none }

def resAll (P : Program) (s : AS) : List ResultVar → Option (List TV)
  | [] => some []
  | r :: l => match res1 P s r, resAll P s l with | some x, some xs => some (x :: xs) | _, _ => none

def Fits (s : AS) : TV → TV → Prop
  | r', .v x => r'.dat = some x
  | .ap sz xs k, .ap sz' xs' _ => sz = sz' ∧ xs = xs' ∧ (k = 999999 ∨ memK k s.k = true)
  | _, _ => False

def ResFit (P : Program) (rs : List ResultVar) (s : AS) (r : TV) : Prop :=
  match rs with
  | [rv] => ∃ r', res1 P s rv = some r' ∧ Fits s r' r
  | rvs => ∃ l cs, resAll P s rvs = some l ∧ TV.dat.datL l = some cs ∧ r = .tup (cs.map .v)

def Post (P : Program) (rs : List ResultVar) (r : TV) (e : Exit) (s : AS) : Prop := (e = .normal ∨ e = .ret) ∧ ResFit P rs s r

section
variable {P : Program} {E : E0} {g : GS} {w w' : World} {σ σ' : AS} {a : Act} {o : Oper} {d : Nat} {x : TV} {v : Value} {M M' : Mem} {Q : Exit → AS → Prop}

theorem run_asAddr {t : TypeId} {u : Value} (h : (Instr.loadAt t u).run P w = .ok v w') : (do loadVar t (← asAddr u) : Sem Value).run P w = .ok v w' := by
  cases u with
  | pointer p =>
    cases p with
    | some q => simpa [Instr.loadAt, Instr.sureAddr, asAddr] using h
    | none => simp [Instr.loadAt, Instr.sureAddr] at h
  | _ => simp [Instr.loadAt, Instr.sureAddr] at h

theorem runV_inv {s : Sem Value} {w' : World} (h : (do pure (Next.value (← s)) : Sem Next).run P w = .ok (.value v) w') : s.run P w = .ok v w' := by
  rw [Sem.run_bind] at h
  cases hs : s.run P w with
  | ok u w1 => rw [hs] at h; simp at h; rw [h.1, h.2]
  | halt q w1 => rw [hs] at h; simp at h

def resM (tmps : Array Value) : ResultVar → Sem Value
  | .tmp t => pure (tmps.getD t Go.undef)
  | .cell a t => do loadVar t (← asAddr (tmps.getD a Go.undef))

theorem res1_ok (h1 : Wf g w σ.b σ.k) (h2 : Tmps g w σ a) {rv : ResultVar} (h : res1 P σ rv = some x) : ∃ u, (resM a.tmps rv).run P w = .ok u w ∧ RT g w x u := by
  cases rv with
  | tmp t => exact ⟨_, rfl, (h2.2.2.1 t x h).2⟩
  | cell t ty =>
    simp only [res1] at h
    obtain ⟨u, hu, hR⟩ := evalP_ok h1 h2 h
    exact ⟨u, run_asAddr (runV_inv hu), hR⟩

theorem resAll_ok (h1 : Wf g w σ.b σ.k) (h2 : Tmps g w σ a) : ∀ {rvs : List ResultVar} {l : List TV}, resAll P σ rvs = some l → ∃ us, (rvs.mapM (resM a.tmps)).run P w = .ok us w ∧ l.length = us.length ∧ ∀ (j : Nat) x u, l[j]? = some x → us[j]? = some u → RT g w x u
  | [], l, h => by simp only [resAll, Option.some.injEq] at h; subst h; exact ⟨[], rfl, rfl, fun j x u hx => by simp at hx⟩
  | rv :: rvs, l, h => by
    simp only [resAll] at h
    split at h
    · rename_i y ys e1 e2
      cases h
      obtain ⟨u, hu, hR⟩ := res1_ok h1 h2 e1
      obtain ⟨us, hus, hl, hRs⟩ := resAll_ok h1 h2 e2
      refine ⟨u :: us, ?_, by simp [hl], fun j x u' hx hu' => ?_⟩
      · rw [List.mapM_cons]
        simp only [Sem.run_bind, hu, Result.andThen_ok, hus]
        rfl
      · cases j with
        | zero => simp at hx hu'; subst hx; subst hu'; exact hR
        | succ j => simp at hx hu'; exact hRs j x u' hx hu'
    · cases h

theorem results_run {fn : Func} {us : List Value} (h : (fn.results.toList.mapM (resM a.tmps)).run P w = .ok us w) : (results fn a.tmps).run P w = .ok (if h : us.toArray.size = 1 then us.toArray[0] else .tuple us.toArray) w := by
  have e : results fn a.tmps = (do
      let vs ← fn.results.mapM (resM a.tmps)
      pure (if h : vs.size = 1 then vs[0] else .tuple vs)) := by
    have e1 : (fun | .tmp t => pure (a.tmps.getD t Go.undef) | .cell c t => do loadVar t (← asAddr (a.tmps.getD c Go.undef)) : ResultVar → Sem Value) = resM a.tmps := by
      funext rv
      cases rv <;> rfl
    unfold results
    rw [← e1]
    rfl
  rw [e]
  have e2 : (fn.results.mapM (resM a.tmps)).run P w = .ok us.toArray w := by
    obtain ⟨l, hl⟩ : ∃ l, fn.results = l.toArray := ⟨fn.results.toList, by simp⟩
    rw [hl] at h ⊢
    rw [List.mapM_toArray, Sem.run_map]
    simp only at h
    rw [h]; rfl
  simp only [Sem.run_bind, e2, Result.andThen_ok, Sem.run_pure]

theorem dat_resP (h3 : Ext (gp M) w g w') {y : AV} {u : Value} (h : R g.M y u) : ResP g.M w w' (.v y) u := .v _ _ h

theorem get_argT : ∀ (args : List AV) (i t : Nat) (x : TV), get t (argT i args) = some x → i ≤ t ∧ ∃ y, args[t - i]? = some y ∧ x = .v y
  | [], i, t, x, h => by simp [argT, get] at h
  | y :: l, i, t, x, h => by
    simp only [argT, get] at h
    cases ht : t == i
    · simp only [ht, cond_false] at h
      obtain ⟨q1, z, q2, q3⟩ := get_argT l (i + 1) t x h
      refine ⟨by omega, z, ?_, q3⟩
      rw [show t - i = (t - (i + 1)) + 1 by omega, List.getElem?_cons_succ]; exact q2
    · simp only [ht, cond_true, Option.some.injEq] at h
      simp only [beq_iff_eq] at ht
      subst h; subst ht
      exact ⟨Nat.le_refl _, y, by simp, rfl⟩

theorem ap_inv {sz : Nat} {xs : List AV} {s : Nat} (h : RT g w (.ap sz xs s) v) : R g.M (.sl sz xs) v ∧ ∀ ob, g.κ s = some ob → Tok g.M w ob sz xs.length v := by
  cases h with
  | ap sz xs s x h hk => exact ⟨h, hk⟩

theorem fits_inv {s : AS} {r' r : TV} (h : Fits s r' r) : (∃ y, r = .v y ∧ r'.dat = some y) ∨ ∃ sz xs k k', r' = .ap sz xs k ∧ r = .ap sz xs k' ∧ (k = 999999 ∨ memK k s.k = true) := by
  unfold Fits at h
  split at h
  · exact .inl ⟨_, rfl, h⟩
  · obtain ⟨rfl, rfl, hl⟩ := h; exact .inr ⟨_, _, _, _, rfl, rfl, hl⟩
  · exact h.elim

theorem fc_of_body {f : FuncId} {fn : Func} {c : Code} {args : List AV} {r : TV} {nt : Nat} {rs : List ResultVar} {ts : List (Nat × TV)} (hf : P.funcs[f]? = some fn) (hb : fn.body = some c) (hnt : fn.ntmps = nt) (hrs : fn.results.toList = rs) (ht : argT 0 args = ts) (hname : (fn.name == "runtime.NumGoroutine") = false) (hn : args.length ≤ nt)
    (h : Tri P none 0 c ⟨nt, ts, [], []⟩ (Post P rs r)) : FC P f args r := by
  subst hnt; subst hrs; subst ht
  refine ⟨fun vs w => by have hn' : ¬ fn.name = "runtime.NumGoroutine" := (by simpa using hname); simp [callFunc, hf, hn', hb], fun M w vals hM hTab hlen hR => ?_⟩
  refine callsIn_wide.1 (callsIn_of_wp_marks (F := Fence.wide) (n := 0) hf hb trivial (wpIn_mono (h ⟨gp M, w, hTab, fun p _ => gp_X M p.1⟩ (fun l hl => by cases hl) _ w ⟨gp M, ?_, ?_, Ext.refl _ _⟩) ?_))
  · exact
    { mem := hM
      box := fun t cs ht => by simp [get] at ht
      ij := fun s s' b hs => by simp [gp] at hs
      ik := fun s s' b hs => by simp only [gp] at hs; split at hs <;> cases hs
      ap := fun s s' b hs => by simp [gp] at hs
      ltφ := fun s b hs => by simp [gp] at hs
      ltκ := fun s b hs => by simp only [gp] at hs; split at hs <;> cases hs
      nφ := fun s b o hs => by simp [gp] at hs
      live := fun s hs => by simp at hs
      dfr := fun j hj => by simp [gp] at hj
      dnd := List.nodup_nil
      dX := fun j hj => by simp [gp] at hj }
  · refine ⟨rfl, ?_, fun t y hy => ?_, by simp [gp]⟩
    · show (vals ++ Array.replicate (fn.ntmps - vals.size) Go.undef).size = fn.ntmps
      simp; omega
    · obtain ⟨_, z, q2, rfl⟩ := get_argT args 0 t y hy
      simp only [Nat.sub_zero] at q2
      have hlt : t < args.length := (List.getElem?_eq_some_iff.1 q2).1
      refine ⟨by show t < fn.ntmps; omega, .v _ _ (hR t z _ q2 ?_)⟩
      show vals[t]? = some ((vals ++ Array.replicate (fn.ntmps - vals.size) Go.undef).getD t Go.undef)
      rw [Array.getD_eq_getD_getElem?, Array.getElem?_append_left (by omega)]
      have : t < vals.size := by omega
      simp [this]
  · rintro e a' w1 ⟨σ', ⟨he, hfit⟩, g0, h1', h2', h3'⟩
    suffices hend : ∀ w' : World, (∀ j, j ∉ g0.D → w'.heap[j]? = w1.heap[j]?) → w'.heap.size = w1.heap.size → w'.os = w1.os → w'.tape = w1.tape → w'.output = w1.output →
        ∃ v, (results fn a'.tmps).run P w' = .ok v w' ∧ (∃ v' M', Ending.returned v = .returned v' ∧ Below w.heap.size w w' ∧ MLe M M' ∧ (∀ b o v, M' b o = some v → M b o = some v ∨ w.heap.size ≤ b) ∧ MemOk M' w' ∧ ResP M' w w' r v') by
      have := takes (F := Fence.wide) (n := 0) (P := P) (fn := fn) (tmps := a'.tmps) (R := fun e w' => ∃ v M', e = .returned v ∧ Below w.heap.size w w' ∧ MLe M M' ∧ (∀ b o v, M' b o = some v → M b o = some v ∨ w.heap.size ≤ b) ∧ MemOk M' w' ∧ ResP M' w w' r v) g0.D w1 h1'.dnd h1'.dfr hend
      rw [← h2'.1] at this
      rcases he with rfl | rfl <;> exact this
    intro w' d1 d2 d3 d4 d5
    have hXD : ∀ j, g0.X j → j ∉ g0.D := fun j hx hj => h1'.dX j hj hx
    have hMD : ∀ b o v, g0.M b o = some v → b ∉ g0.D := fun b o v hv hj => by
      have hdj := h1'.dfr b hj
      have := (h1'.mem b o v hv).1
      simp [World.cell?, hdj] at this
    have hDw : ∀ j ∈ g0.D, w.heap.size ≤ j := fun j hj => by
      rcases h3'.dn j hj with h | h
      · exact h
      · simp [gp] at h
    obtain ⟨g, hg⟩ : ∃ g, g = g0.re g0.M [] := ⟨_, rfl⟩
    have h1 : Wf g w' σ'.b σ'.k := by
      rw [hg]
      exact h1'.fgn (fun j _ hx => d1 j (hXD j hx)) (by omega) (MLe.refl _) (fun _ _ _ h => .inl h) (fun b o v hv => by
        rw [World.cell?_of_block (d1 b (hMD b o v hv))]; exact h1'.mem b o v hv) (fun j hj => by cases hj) List.nodup_nil (fun j hj => by cases hj)
    have h2 : Tmps g w' σ' { a' with defers := [] } := by
      rw [hg]
      exact h2'.fgn h1' rfl rfl (fun j _ hx => d1 j (hXD j hx)) (MLe.refl _) (fun _ _ _ h => .inl h)
    have h3 : Ext (gp M) w g w' := by
      rw [hg]
      exact h3'.fgn (fun j (hj : j < w.heap.size) _ => d1 j (fun hjd => by have := hDw j hjd; omega)) (by omega) d3 d4 d5 (MLe.refl _) (fun _ _ _ h => .inl h) (fun j hj => by cases hj)
    have hX : ∀ b, ¬ (gp M).X b := by
      rintro b (⟨s, hs⟩ | ⟨s, hs⟩)
      · simp [gp] at hs
      · simp only [gp] at hs; split at hs <;> cases hs
    have hbel : Below w.heap.size w w' := ⟨h3.os, h3.tape, h3.output, h3.size, fun j hj => h3.heap j hj (hX j)⟩
    have hMn : ∀ b o v, g.M b o = some v → M b o = some v ∨ w.heap.size ≤ b := fun b o v hv => by
      rcases h3.Mn b o v hv with q | q | q
      · exact .inl q
      · exact .inr q
      · exact absurd q (hX b)
    have fin : ∀ u, (results fn a'.tmps).run P w' = .ok u w' → ResP g.M w w' r u → ∃ v, (results fn a'.tmps).run P w' = .ok v w' ∧ (∃ v' M', Ending.returned v = .returned v' ∧ Below w.heap.size w w' ∧ MLe M M' ∧ (∀ b o v, M' b o = some v → M b o = some v ∨ w.heap.size ≤ b) ∧ MemOk M' w' ∧ ResP M' w w' r v') := fun u hu hr =>
      ⟨u, hu, u, g.M, rfl, hbel, h3.M, hMn, h1.mem, hr⟩
    unfold ResFit at hfit
    split at hfit
    · rename_i rv hrs
      obtain ⟨r', hr', hF⟩ := hfit
      obtain ⟨u, hu, hRT⟩ := res1_ok (P := P) h1 h2 hr'
      have hrun := results_run (P := P) (fn := fn) (a := a') (w := w') (us := [u]) (by rw [hrs, List.mapM_cons]; simp only [Sem.run_bind, hu, Result.andThen_ok]; rfl)
      refine fin u (by simpa using hrun) ?_
      rcases fits_inv hF with ⟨y, rfl, hd⟩ | ⟨sz, xs, s, k', rfl, rfl, hl⟩
      · exact .v _ _ (hRT.dat hd)
      · obtain ⟨hR, hk⟩ := ap_inv hRT
        obtain ⟨ob, hob⟩ : ∃ ob, g.κ s = some ob := by
          rcases hl with rfl | hl
          · exact ⟨none, h2.2.2.2⟩
          · have := h1.live s (memK_mem hl)
            cases hks : g.κ s with
            | none => exact absurd hks this
            | some ob => exact ⟨ob, rfl⟩
        refine .ap _ _ _ _ ob hR (hk ob hob) fun b hbb => ?_
        subst hbb
        refine ⟨?_, h1.ltκ s b hob⟩
        rcases h3.κn s b hob with q | q
        · exact q
        · exact absurd q (hX b)
    · rename_i hne
      obtain ⟨l, cs, hl, hcs, rfl⟩ := hfit
      obtain ⟨us, hus, hlen', hRs⟩ := resAll_ok (P := P) h1 h2 hl
      have hrun := results_run (P := P) (fn := fn) hus
      have hne1 : us.toArray.size ≠ 1 := by
        intro e1
        have : us.length = 1 := by simpa using e1
        rw [← hlen'] at this
        obtain ⟨q, rfl⟩ := List.length_eq_one_iff.1 this
        cases hrl : fn.results.toList with
        | nil => rw [hrl] at hl; simp [resAll] at hl
        | cons r1 rest =>
          cases rest with
          | nil => exact hne r1 hrl
          | cons r2 rest =>
            rw [hrl] at hl
            simp only [resAll] at hl
            split at hl <;> first | cases hl | skip
            rename_i y ys e1 e2
            split at e2 <;> cases e2
      rw [dif_neg hne1] at hrun
      obtain ⟨l1, l2⟩ := datL_at hcs
      refine fin _ hrun (.tup cs us.toArray (by simp; omega) fun j c v hc hv => ?_)
      obtain ⟨y, hy, hd⟩ := l2 j c hc
      exact (hRs j y v hy (by simpa using hv)).dat hd
end
end Go.Proofs.YtenigafbbdjagaaDoor.AL
