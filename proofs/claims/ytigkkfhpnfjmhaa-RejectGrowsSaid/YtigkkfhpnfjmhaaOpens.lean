/- How an argument's reading as data is taken up as a value of a kind (Kd) of the printer's words: integers, bools, strings, slices, structs, structs nested in themselves; with the bounds that a row's own reach gives. Over any program. -/
import Derived.Test.YtigkkfhpnfjmhaaWWords
import Derived.Deep.Slices
import Derived.SizedLaws
import Derived.OpenShut
namespace Go.Proofs.Ytigkkfhpnfjmhaa.Opens
open Go.RowKit Go.Proofs.YtigkkfhpnfjmhaaW.PrintWords
set_option linter.unusedVariables false
set_option linter.unusedSimpArgs false

/-- Read with n rounds: a value of kind d, within bounds. -/
def At {α : Type} (P : Program) (n : Nat) (t : TypeId) (d : Kd α) (B : α → Prop) : Prop :=
  ∀ (H : Type) (enc : TypeId × Value → H) (W : World) (base : Nat) (spare : Nat → Bool) (held : Bool) (cs : List Value) (dat : DataW H) (ps : List MemPlace),
    DataW.trod enc P W base spare held n t cs = some (dat, ps) → (dat.weights P t).all (· ≤ reachBytes) = true → ∃ x, d.K W x cs ∧ B x
def Upto {α : Type} (P : Program) (n : Nat) (t : TypeId) (d : Kd α) (B : α → Prop) : Prop := ∀ m, m ≤ n → At P m t d B
theorem at_zero {α : Type} {P : Program} {t : TypeId} {d : Kd α} {B : α → Prop} : At P 0 t d B := by
  intro H enc W base spare held cs dat ps h
  simp [DataW.trod] at h
theorem Upto.le {α : Type} {P : Program} {n m : Nat} {t : TypeId} {d : Kd α} {B : α → Prop} (h : Upto P n t d B) (hm : m ≤ n) : Upto P m t d B := fun k hk => h k (by omega)

theorem int_at {P : Program} {n : Nat} {t : TypeId} {k : IntKind} (ht : P.underlying t = some (.int k)) : Upto P n t (Kd.int k) (fun x => (Lit.int k x).wf = true) := by
  intro m _ H enc W base spare held cs dat ps h _
  obtain ⟨x, rfl, _, hw⟩ := DataW.trod_int ht h
  exact ⟨x, rfl, hw⟩
theorem bool_at {P : Program} {n : Nat} {t : TypeId} (ht : P.underlying t = some .bool) : Upto P n t Kd.bool (fun _ => True) := by
  intro m _ H enc W base spare held cs dat ps h _
  obtain ⟨x, rfl, _⟩ := DataW.trod_bool ht h
  exact ⟨x, rfl, trivial⟩
theorem string_at {P : Program} {n : Nat} {t : TypeId} (ht : P.underlying t = some .string) : Upto P n t Kd.string (fun s => s.size ≤ 140737488351232) := by
  intro m _ H enc W base spare held cs dat ps h hw
  obtain ⟨s, rfl, hd, _⟩ := DataW.trod_string ht h
  obtain ⟨rfl, _⟩ := Prod.mk.inj hd
  refine ⟨s, rfl, ?_⟩
  simp only [DataW.weights, reachBytes, List.all_cons, List.all_nil, Bool.and_true, Array.length_toList] at hw
  exact of_decide_eq_true hw

/-- The bounds of a slice: its length, its bytes, its elements. -/
def SliceB {α : Type} (b : Nat) (B : α → Prop) (xs : List α) : Prop := xs.length ≤ maxLen ∧ xs.length * b ≤ 140737488351232 ∧ ∀ x ∈ xs, B x

theorem weightsAll_all {H : Type} {P : Program} {e : TypeId} : ∀ {l : List (DataW H)}, (DataW.weightsAll P e l).all (· ≤ reachBytes) = true → ∀ d ∈ l, (d.weights P e).all (· ≤ reachBytes) = true
  | [], _, d, hd => by simp at hd
  | x :: l, h, d, hd => by
    simp only [DataW.weightsAll, List.all_append, Bool.and_eq_true] at h
    rcases List.mem_cons.1 hd with rfl | hd
    · exact h.1
    · exact weightsAll_all h.2 d hd

theorem slice_at {α : Type} {P : Program} {n : Nat} {t e : TypeId} {d : Kd α} {B : α → Prop} {b : Nat} (ht : P.underlying t = some (.slice e)) (hc : P.cellsOf e = d.sz) (hb : P.bytesOf e = b) (hs : Upto P n e d B) :
    Upto P (n + 1) t (Kd.slice e d) (SliceB b B) := by
  intro m hm H enc W base spare held cs dat ps h hw
  rcases DataW.trod_slice ht h with ⟨rfl, _⟩ | ⟨a, len, cap, elems, rest, k, rfl, rfl, hx, _, hl, hcap, hlen, hel, _, _⟩
  · refine ⟨[], ⟨none, 0, rfl, Nat.le_refl _, rfl, by simp, fun h => absurd h (by simp)⟩, by unfold maxLen; simp, by simp, by simp⟩
  · obtain ⟨rfl, _⟩ := Prod.mk.inj hx
    simp only [DataW.weights, ht, List.all_cons, List.all_append, Bool.and_eq_true, decide_eq_true_eq, List.length_map] at hw
    have hall := weightsAll_all hw.2.1
    have hk : At P k e d B := hs k (by omega)
    have hget : ∀ i, i < len → ∃ x c, d.K W x c ∧ B x ∧ c.length = d.sz ∧ ∀ j u, c[j]? = some u → W.cell? (a.add (i * d.sz + j)) = some u := by
      intro i hi
      have h1 := hel i hi
      have hi' : i < elems.length := by omega
      rw [List.getElem?_eq_getElem hi'] at h1
      obtain ⟨c, hc1, hc2⟩ := Option.bind_eq_some_iff.1 h1
      obtain ⟨_, hclen, hcell⟩ := World.cells?_some hc1
      obtain ⟨x, hK, hB⟩ := hk H enc W base spare held c elems[i].1 elems[i].2 hc2 (hall _ (List.mem_map.2 ⟨elems[i], List.getElem_mem hi', rfl⟩))
      refine ⟨x, c, hK, hB, d.K_len hK, fun j u hj => ?_⟩
      have hjl := (List.getElem?_eq_some_iff.1 hj).1
      have h2 := hcell j (by omega)
      rw [hc] at h2
      rw [Go.Deep.add_add] at h2
      rw [h2, hj]
    by_cases hz : len = 0
    · subst hz
      refine ⟨[], ⟨some a, cap, rfl, Nat.zero_le _, rfl, by simp, fun h => absurd h (by simp)⟩, by unfold maxLen; simp, by simp, by simp⟩
    · obtain ⟨x0, _⟩ := hget 0 (by omega)
      have : Inhabited α := ⟨x0⟩
      obtain ⟨f, hf⟩ := Go.Deep.choose_lt hget
      have hlm : (List.range len).map f = (List.range len).map f := rfl
      refine ⟨(List.range len).map f, ⟨some a, cap, by simp, by simpa using hl, by simp, by have := hcap; unfold maxLen at this; simp; omega, fun _ => ⟨a, rfl, fun j p hj => ?_⟩⟩, ?_, ?_, ?_⟩
      · have hjl : j < len := by have := (List.getElem?_eq_some_iff.1 hj).1; simpa using this
        have : p = f j := by
          rw [List.getElem?_map, List.getElem?_range hjl] at hj
          simpa using hj.symm
        subst this
        obtain ⟨c, h1, _, h3, h4⟩ := hf j hjl
        exact ⟨c, h3, h1, h4⟩
      · simp; omega
      · have := hw.1
        rw [hb] at this
        simp [reachBytes] at this ⊢
        have h2 : len * b ≤ (elems.length + rest.length) * b := Nat.mul_le_mul_right _ (by omega)
        omega
      · intro x hx
        obtain ⟨i, hi, rfl⟩ := List.mem_map.1 hx
        obtain ⟨_, _, h2, _⟩ := hf i (by simpa using hi)
        exact h2

/-- Fields in line: their types; a struct's cells one field behind the other. -/
def offs (P : Program) : Nat → List TypeId → List Nat
  | _, [] => []
  | o, t :: ts => o :: offs P (o + P.cellsOf t) ts
def PartsAt {β : Type} (P : Program) (n : Nat) (ts : List TypeId) (d : Kd β) (B : β → Prop) : Prop :=
  ∀ (H : Type) (enc : TypeId × Value → H) (W : World) (base : Nat) (spare : Nat → Bool) (held : Bool) (cs : List Value) (xs : List (DataW H × List MemPlace)),
    cs.length = d.sz → xs.length = ts.length →
    (∀ (i : Nat) (t : TypeId) (o : Nat), ts[i]? = some t → (offs P 0 ts)[i]? = some o → DataW.trod enc P W base spare held n t ((cs.drop o).take (P.cellsOf t)) = xs[i]?) →
    (DataW.weightsEach P ts (xs.map (·.1))).all (· ≤ reachBytes) = true → ∃ y, d.K W y cs ∧ B y
theorem offs_shift {P : Program} : ∀ (ts : List TypeId) (a b : Nat), offs P (a + b) ts = (offs P b ts).map (a + ·)
  | [], a, b => rfl
  | t :: ts, a, b => by
    simp only [offs, List.map_cons]
    rw [Nat.add_assoc, offs_shift ts a]
theorem parts_one {β : Type} {P : Program} {n : Nat} {t : TypeId} {d : Kd β} {B : β → Prop} (hc : P.cellsOf t = d.sz) (h : At P n t d B) : PartsAt P n [t] d B := by
  intro H enc W base spare held cs xs hl hx ht hw
  match xs, hx with
  | [x], _ =>
    have h1 := ht 0 t 0 rfl rfl
    rw [List.drop_zero, List.take_of_length_le (by omega)] at h1
    simp only [DataW.weightsEach, List.map_cons, List.map_nil, List.append_nil] at hw
    exact h H enc W base spare held cs x.1 x.2 (by rw [h1]; rfl) hw
theorem parts_cons {α β : Type} {P : Program} {n : Nat} {t : TypeId} {ts : List TypeId} {a : Kd α} {b : Kd β} {A : α → Prop} {B : β → Prop} (hc : P.cellsOf t = a.sz) (h : At P n t a A) (hr : PartsAt P n ts b B) :
    PartsAt P n (t :: ts) (Kd.pair a b) (fun y => A y.1 ∧ B y.2) := by
  intro H enc W base spare held cs xs hl hx ht hw
  cases xs with
  | nil => simp at hx
  | cons x xs =>
    have hl' : cs.length = a.sz + b.sz := hl
    simp only [DataW.weightsEach, List.map_cons, List.all_append, Bool.and_eq_true] at hw
    have h1 := ht 0 t 0 rfl rfl
    rw [List.drop_zero, hc] at h1
    obtain ⟨y1, hy1, hA⟩ := h H enc W base spare held (cs.take a.sz) x.1 x.2 (by rw [h1]; rfl) hw.1
    obtain ⟨y2, hy2, hB⟩ := hr H enc W base spare held (cs.drop a.sz) xs (by rw [List.length_drop]; omega) (by simpa using hx) (fun i t' o hi ho => by
      have h2 := ht (i + 1) t' (a.sz + o) (by simpa using hi) (by
        simp only [offs, Nat.zero_add, List.getElem?_cons_succ]
        rw [← Nat.add_zero (P.cellsOf t), offs_shift, List.getElem?_map, ho, hc]; rfl)
      rw [List.drop_drop]
      simpa using h2) hw.2
    exact ⟨(y1, y2), ⟨cs.take a.sz, cs.drop a.sz, (List.take_append_drop _ _).symm, hy1, hy2⟩, hA, hB⟩
theorem struct_at {α β : Type} {P : Program} {n : Nat} {t : TypeId} {fs : Array Field} {ts : List TypeId} {d : Kd β} {B : β → Prop} {B' : α → Prop} {f : α → β} {g : β → α} (ht : P.underlying t = some (.struct fs)) (hc : P.cellsOf t = d.sz)
    (hts : fs.toList.map (·.type) = ts) (hos : fs.toList.map (·.offset) = offs P 0 ts) (hfg : ∀ y, f (g y) = y) (hB : ∀ y, B y → B' (g y)) (h : ∀ m, m ≤ n → PartsAt P m ts d B) :
    Upto P (n + 1) t (Kd.iso d f) B' := by
  intro m hm H enc W base spare held cs dat ps hd hw
  obtain ⟨xs, k, rfl, hx, hl, hlen, hf⟩ := DataW.trod_struct ht hd
  obtain ⟨rfl, _⟩ := Prod.mk.inj hx
  simp only [DataW.weights, ht] at hw
  rw [hts] at hw
  have hsz : fs.size = ts.length := by rw [← hts]; simp
  obtain ⟨y, hy, hBy⟩ := h k (by omega) H enc W base spare held cs xs (by rw [hl, hc]) (by rw [hlen, hsz]) (fun i t' o hi ho => by
    have hi' : i < fs.size := by have := (List.getElem?_eq_some_iff.1 hi).1; omega
    have h1 := hf i fs[i] (Array.getElem?_eq_getElem hi')
    have e1 : fs[i].type = t' := by
      have : (fs.toList.map (·.type))[i]? = some t' := by rw [hts]; exact hi
      rw [List.getElem?_map, List.getElem?_eq_getElem (by simpa using hi')] at this
      simpa using this
    have e2 : fs[i].offset = o := by
      have : (fs.toList.map (·.offset))[i]? = some o := by rw [hos]; exact ho
      rw [List.getElem?_map, List.getElem?_eq_getElem (by simpa using hi')] at this
      simpa using this
    rw [e1, e2] at h1
    exact h1) hw
  exact ⟨g y, by show d.K W (f (g y)) cs; rw [hfg]; exact hy, hB y hBy⟩

/-- An array of few elements, as a struct of as many fields. -/
theorem offs_rep {P : Program} {e : TypeId} : ∀ (len o i : Nat), i < len → (offs P o (List.replicate len e))[i]? = some (o + i * P.cellsOf e)
  | 0, o, i, h => by omega
  | len + 1, o, 0, h => by simp [List.replicate_succ, offs]
  | len + 1, o, i + 1, h => by
    rw [List.replicate_succ, offs, List.getElem?_cons_succ, offs_rep len _ i (by omega), Nat.succ_mul]
    congr 1; omega
theorem weights_rep {H : Type} {P : Program} {e : TypeId} : ∀ (l : List (DataW H)), DataW.weightsEach P (List.replicate l.length e) l = DataW.weightsAll P e l
  | [] => rfl
  | x :: l => by
    rw [List.length_cons, List.replicate_succ]
    simp only [DataW.weightsEach, DataW.weightsAll]
    rw [weights_rep l]
theorem array_at {α β : Type} {P : Program} {n : Nat} {t e : TypeId} {len : Nat} {ts : List TypeId} {d : Kd β} {B : β → Prop} {B' : α → Prop} {f : α → β} {g : β → α} (ht : P.underlying t = some (.array len e)) (hc : P.cellsOf t = d.sz)
    (hts : ts = List.replicate len e) (hfg : ∀ y, f (g y) = y) (hB : ∀ y, B y → B' (g y)) (h : ∀ m, m ≤ n → PartsAt P m ts d B) :
    Upto P (n + 1) t (Kd.iso d f) B' := by
  subst hts
  intro m hm H enc W base spare held cs dat ps hd hw
  obtain ⟨xs, k, rfl, hx, hl, hlen, hf⟩ := DataW.trod_array ht hd
  obtain ⟨rfl, _⟩ := Prod.mk.inj hx
  simp only [DataW.weights, ht] at hw
  obtain ⟨y, hy, hBy⟩ := h k (by omega) H enc W base spare held cs xs (by rw [hl, hc]) (by rw [hlen]; simp) (fun i t' o hi ho => by
    have hi' : i < len := by have := (List.getElem?_eq_some_iff.1 hi).1; simpa using this
    have e1 : t' = e := by
      rw [List.getElem?_replicate, if_pos hi'] at hi
      exact (Option.some.inj hi).symm
    subst e1
    rw [offs_rep _ _ _ hi', Nat.zero_add] at ho
    obtain rfl := Option.some.inj ho
    exact hf i hi') (by
    have := weights_rep (P := P) (e := e) (xs.map (·.1))
    rw [List.length_map, hlen] at this
    rw [this]; exact hw)
  exact ⟨g y, by show d.K W (f (g y)) cs; rw [hfg]; exact hy, hB y hBy⟩

theorem okWide_arr {P : Program} {w : World} {r : Reach} {base : Nat} {t : TypeId} {v : Value} {len : Nat} {e : TypeId} (ht : P.underlying t = some (.array len e)) (h : Value.okWide P w r base t v) : ∃ cs, v = .agg cs ∧ cs.size = P.cellsOf t := by
  simp only [Value.okWide, ht] at h
  obtain ⟨cs, h1, h2, _⟩ := h
  exact ⟨cs, h1, h2⟩

/-- A type nested in itself. -/
theorem fix_at {α : Type} {P : Program} {t : TypeId} {F : Kd α → Kd α} {G : (α → Prop) → α → Prop} {sz : Nat} {E : List Nat} {hs : ∀ n, (Kd.upto F sz E n).sz = sz} {hE : ∀ n q, q ∈ (Kd.upto F sz E n).E → q ∈ E}
    (Bn : Nat → α → Prop) (hBn : ∀ n, Bn (n + 1) = G (Bn n)) (step : ∀ (n : Nat) (d : Kd α) (B : α → Prop), d.sz = sz → Upto P n t d B → Upto P (n + 1) t (F d) (G B)) (n : Nat) : Upto P n t (Kd.fix F sz E hs hE) (fun x => ∃ n, Bn n x) := by
  have key : ∀ n, Upto P n t (Kd.upto F sz E n) (Bn n) := by
    intro n
    induction n with
    | zero =>
      intro m hm
      obtain rfl : m = 0 := by omega
      exact at_zero
    | succ n ih =>
      rw [hBn]
      exact step n _ _ (hs n) ih
  intro m hm H enc W base spare held cs dat ps h hw
  obtain ⟨x, hK, hB⟩ := key m m (Nat.le_refl _) H enc W base spare held cs dat ps h hw
  exact ⟨x, ⟨m, hK⟩, m, hB⟩

/-- The row's own word on one argument's weights. -/
theorem weights_of {H : Type} {P : Program} {ts : List TypeId} {ds : List (DataW H)} (h : (DataW.weightsEach P ts ds).all (· ≤ reachBytes) = true) {j : Nat} {t : TypeId} {d : DataW H} (ht : ts[j]? = some t) (hd : ds[j]? = some d) :
    (d.weights P t).all (· ≤ reachBytes) = true :=
  List.all_eq_true.2 fun n hn => List.all_eq_true.1 h n (DataW.weights_mem_each ht hd n hn)
theorem open_at {H : Type} {enc : TypeId × Value → H} {α : Type} {P : Program} {t : TypeId} {d : Kd α} {B : α → Prop} {W : World} {base : Nat} {spare : Nat → Bool} {held : Bool} {v : Value} {dat : DataW H} {ps : List MemPlace}
    (h : ∀ n, Upto P n t d B) (ht : DataW.Trod enc P W base spare held t v dat ps) (hw : (dat.weights P t).all (· ≤ reachBytes) = true) : ∃ x, d.K W x v.cells.toList ∧ B x := by
  obtain ⟨fuel, hf⟩ := ht
  exact h fuel fuel (Nat.le_refl _) H enc W base spare held _ dat ps hf hw
theorem list_of_array {cs : Array Value} {l : List Value} (h : cs.toList = l) : cs = l.toArray := by rw [← h]
end Go.Proofs.Ytigkkfhpnfjmhaa.Opens
