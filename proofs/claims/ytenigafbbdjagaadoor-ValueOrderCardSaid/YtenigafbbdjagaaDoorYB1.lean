/- How an argument's reading as data is taken up as a value without memory: integers, bools, strings, slices, structs, arrays. Over any program. -/
import Derived.Test.YtenigafbbdjagaaDoorYMB
import Derived.Deep.Slices
import Derived.SizedLaws
import Derived.OpenShut
namespace Go.Proofs.YtenigafbbdjagaaDoor.AL
open Go Go.RowKit
set_option linter.unusedVariables false
set_option linter.unusedSimpArgs false

/-- Memory as it stands. -/
def MW (W : World) : Mem := fun b o => match W.cell? ⟨b, o, none⟩ with | some v => if v.oneCell' = true then some v else none | none => none
theorem MW_ok (W : World) : MemOk (MW W) W := by
  intro b o v h
  unfold MW at h
  split at h
  · rename_i u hu
    split at h
    · rename_i h1; cases h; exact ⟨hu, h1⟩
    · cases h
  · cases h
theorem MW_some {W : World} {b o : Nat} {v : Value} (h : W.cell? ⟨b, o, none⟩ = some v) (h1 : v.oneCell' = true) : MW W b o = some v := by
  unfold MW; rw [h]; simp [h1]

/-- Cells, read in line. -/
def CR (M : Mem) (as : List AV) (cs : List Value) : Prop := as.length = cs.length ∧ ∀ (j : Nat) a v, as[j]? = some a → cs[j]? = some v → R M a v ∧ v.oneCell' = true
theorem CR.one {M : Mem} {a : AV} {v : Value} (h : R M a v) (h1 : v.oneCell' = true) : CR M [a] [v] := by
  refine ⟨rfl, fun j x y hx hy => ?_⟩
  cases j with
  | zero => simp at hx hy; subst hx; subst hy; exact ⟨h, h1⟩
  | succ j => simp at hx
theorem CR.append {M : Mem} {as bs : List AV} {cs ds : List Value} (h : CR M as cs) (k : CR M bs ds) : CR M (as ++ bs) (cs ++ ds) := by
  refine ⟨by simp [h.1, k.1], fun j x y hx hy => ?_⟩
  by_cases hj : j < as.length
  · rw [List.getElem?_append_left hj] at hx
    rw [List.getElem?_append_left (by rw [← h.1]; exact hj)] at hy
    exact h.2 j x y hx hy
  · rw [List.getElem?_append_right (by omega)] at hx
    rw [List.getElem?_append_right (by have := h.1; omega), ← h.1] at hy
    exact k.2 _ x y hx hy

/-- Read with n rounds: a value of that shape, within bounds. -/
def RAt {α : Type} (P : Program) (n : Nat) (t : TypeId) (sz : Nat) (f : α → AV) (B : α → Prop) : Prop :=
  ∀ (H : Type) (enc : TypeId × Value → H) (W : World) (base : Nat) (spare : Nat → Bool) (held : Bool) (cs : List Value) (dat : DataW H) (ps : List MemPlace),
    DataW.trod enc P W base spare held n t cs = some (dat, ps) → (dat.weights P t).all (· ≤ reachBytes) = true → ∃ x, B x ∧ (f x).cells.length = sz ∧ CR (MW W) (f x).cells cs
def RUp {α : Type} (P : Program) (n : Nat) (t : TypeId) (sz : Nat) (f : α → AV) (B : α → Prop) : Prop := ∀ m, m ≤ n → RAt P m t sz f B
theorem rat_zero {α : Type} {P : Program} {t : TypeId} {sz : Nat} {f : α → AV} {B : α → Prop} : RAt P 0 t sz f B := by
  intro H enc W base spare held cs dat ps h
  simp [DataW.trod] at h
theorem RUp.zero {α : Type} {P : Program} {t : TypeId} {sz : Nat} {f : α → AV} {B : α → Prop} : RUp P 0 t sz f B := by
  intro m hm
  obtain rfl : m = 0 := by omega
  exact rat_zero
theorem RUp.le {α : Type} {P : Program} {n m : Nat} {t : TypeId} {sz : Nat} {f : α → AV} {B : α → Prop} (h : RUp P n t sz f B) (hm : m ≤ n) : RUp P m t sz f B := fun k hk => h k (by omega)
theorem RUp.weak {α : Type} {P : Program} {n : Nat} {t : TypeId} {sz : Nat} {f : α → AV} {B B' : α → Prop} (h : RUp P n t sz f B) (hB : ∀ x, B x → B' x) : RUp P n t sz f B' := by
  intro m hm H enc W base spare held cs dat ps hd hw
  obtain ⟨x, h1, h2⟩ := h m hm H enc W base spare held cs dat ps hd hw
  exact ⟨x, hB x h1, h2⟩

theorem rint {P : Program} {n : Nat} {t : TypeId} {k : IntKind} (ht : P.underlying t = some (.int k)) : RUp P n t 1 (AV.int k) (fun x => (Lit.int k x).wf = true) := by
  intro m _ H enc W base spare held cs dat ps h _
  obtain ⟨x, rfl, _, hw⟩ := DataW.trod_int ht h
  exact ⟨x, hw, rfl, CR.one (.int k x) rfl⟩
theorem rbool {P : Program} {n : Nat} {t : TypeId} (ht : P.underlying t = some .bool) : RUp P n t 1 AV.bool (fun _ => True) := by
  intro m _ H enc W base spare held cs dat ps h _
  obtain ⟨x, rfl, _⟩ := DataW.trod_bool ht h
  exact ⟨x, trivial, rfl, CR.one (.bool x) rfl⟩
theorem rstr {P : Program} {n : Nat} {t : TypeId} (ht : P.underlying t = some .string) : RUp P n t 1 AV.str (fun s => s.length ≤ 140737488351232) := by
  intro m _ H enc W base spare held cs dat ps h hw
  obtain ⟨s, rfl, hd, _⟩ := DataW.trod_string ht h
  obtain ⟨rfl, _⟩ := Prod.mk.inj hd
  refine ⟨s.data.toList, ?_, rfl, CR.one ?_ rfl⟩
  · simp only [DataW.weights, reachBytes, List.all_cons, List.all_nil, Bool.and_true, Array.length_toList] at hw
    simpa using of_decide_eq_true hw
  · have : s = ⟨s.data.toList.toArray⟩ := by simp
    rw [this]; exact .str _

theorem rweights_all {H : Type} {P : Program} {e : TypeId} : ∀ {l : List (DataW H)}, (DataW.weightsAll P e l).all (· ≤ reachBytes) = true → ∀ d ∈ l, (d.weights P e).all (· ≤ reachBytes) = true
  | [], _, d, hd => by simp at hd
  | x :: l, h, d, hd => by
    simp only [DataW.weightsAll, List.all_append, Bool.and_eq_true] at h
    rcases List.mem_cons.1 hd with rfl | hd
    · exact h.1
    · exact rweights_all h.2 d hd

theorem flat_back {sz : Nat} (hz : 0 < sz) {xs : List AV} (hs : ∀ x ∈ xs, x.cells.length = sz) {j : Nat} {c : AV} (h : (flat xs)[j]? = some c) : ∃ el, j / sz < xs.length ∧ xs[j / sz]? = some el ∧ el.cells[j % sz]? = some c := by
  have hl := flat_length xs hs
  have hj : j < xs.length * sz := by rw [← hl]; exact (List.getElem?_eq_some_iff.1 h).1
  have hi : j / sz < xs.length := Nat.div_lt_of_lt_mul (by rw [Nat.mul_comm]; exact hj)
  have hc := hs xs[j / sz] (List.getElem_mem hi)
  have hm : j % sz < xs[j / sz].cells.length := by rw [hc]; exact Nat.mod_lt _ hz
  have := flat_at xs hs (j / sz) xs[j / sz] (List.getElem?_eq_getElem hi) (j % sz) _ (List.getElem?_eq_getElem hm)
  rw [Nat.mul_comm, Nat.div_add_mod, h] at this
  exact ⟨_, hi, List.getElem?_eq_getElem hi, by rw [List.getElem?_eq_getElem hm, ← this]⟩

def SlB {α : Type} (b : Nat) (B : α → Prop) (xs : List α) : Prop := xs.length ≤ maxLen ∧ xs.length * b ≤ 140737488351232 ∧ ∀ x ∈ xs, B x
theorem rslice {α : Type} {P : Program} {n : Nat} {t e : TypeId} {sz b : Nat} {f : α → AV} {B : α → Prop} (ht : P.underlying t = some (.slice e)) (hz : 0 < sz) (hc : P.cellsOf e = sz) (hb : P.bytesOf e = b) (hs : RUp P n e sz f B) :
    RUp P (n + 1) t 1 (fun xs : List α => AV.sl sz (xs.map f)) (SlB b B) := by
  intro m hm H enc W base spare held cs dat ps h hw
  have hnil : SlB b B ([] : List α) := ⟨Nat.zero_le _, by simp, fun x hx => by cases hx⟩
  rcases DataW.trod_slice ht h with ⟨rfl, _⟩ | ⟨a, len, cap, elems, rest, k, rfl, rfl, hx, _, hl, hcap, hlen, hel, _, _⟩
  · exact ⟨[], hnil, rfl, CR.one (.slN sz) rfl⟩
  · obtain ⟨rfl, _⟩ := Prod.mk.inj hx
    simp only [DataW.weights, ht, List.all_cons, List.all_append, Bool.and_eq_true, decide_eq_true_eq, List.length_map] at hw
    have hall := rweights_all hw.2.1
    have hk : RAt P k e sz f B := hs k (by omega)
    by_cases hl0 : len = 0
    · subst hl0
      exact ⟨[], hnil, rfl, CR.one (.slE sz a cap hcap) rfl⟩
    · have hget : ∀ i, i < len → ∃ (x : α) (c : List Value), B x ∧ (f x).cells.length = sz ∧ CR (MW W) (f x).cells c ∧ ∀ j u, c[j]? = some u → W.cell? (a.add (i * sz + j)) = some u := by
        intro i hi
        have h1 := hel i hi
        have hi' : i < elems.length := by omega
        rw [List.getElem?_eq_getElem hi'] at h1
        obtain ⟨c, hc1, hc2⟩ := Option.bind_eq_some_iff.1 h1
        obtain ⟨_, hclen, hcell⟩ := World.cells?_some hc1
        obtain ⟨x, hB, hsz, hCR⟩ := hk H enc W base spare held c elems[i].1 elems[i].2 hc2 (hall _ (List.mem_map.2 ⟨elems[i], List.getElem_mem hi', rfl⟩))
        refine ⟨x, c, hB, hsz, hCR, fun j u hj => ?_⟩
        have hjl := (List.getElem?_eq_some_iff.1 hj).1
        have h2 := hcell j (by omega)
        rw [hc] at h2
        rw [Go.Deep.add_add] at h2
        rw [h2, hj]
      obtain ⟨x0, _⟩ := hget 0 (by omega)
      have : Inhabited α := ⟨x0⟩
      obtain ⟨g, hg⟩ := Go.Deep.choose_lt hget
      have hszs : ∀ x ∈ ((List.range len).map g).map f, x.cells.length = sz := by
        intro x hx
        obtain ⟨y, hy, rfl⟩ := List.mem_map.1 hx
        obtain ⟨i, hi, rfl⟩ := List.mem_map.1 hy
        obtain ⟨_, _, h2, _⟩ := hg i (by simpa using hi)
        exact h2
      have hspot : a.spot = none := by
        obtain ⟨c, _, h2, h3, h4⟩ := hg 0 (by omega)
        have : 0 < c.length := by have := h3.1; omega
        have := World.cell?_spot (h4 0 _ (List.getElem?_eq_getElem this))
        simpa [Addr.add] using this
      obtain ⟨bk, off, spot⟩ := a
      obtain rfl : spot = none := hspot
      have hcell : ∀ j c, (flat (((List.range len).map g).map f))[j]? = some c → ∃ u, W.cell? ⟨bk, off + j, none⟩ = some u ∧ R (MW W) c u ∧ u.oneCell' = true := by
        intro j c hj
        obtain ⟨el, hi, he, hcj⟩ := flat_back hz hszs hj
        have hi' : j / sz < len := by simpa using hi
        obtain ⟨cc, _, h2, h3, h4⟩ := hg (j / sz) hi'
        have hel : el = f (g (j / sz)) := by
          rw [List.getElem?_map, List.getElem?_map, List.getElem?_range hi'] at he
          simpa using he.symm
        subst hel
        have hjm : j % sz < cc.length := by rw [← h3.1, h2]; exact Nat.mod_lt _ hz
        obtain ⟨q1, q2⟩ := h3.2 _ _ _ hcj (List.getElem?_eq_getElem hjm)
        refine ⟨_, ?_, q1, q2⟩
        have := h4 (j % sz) _ (List.getElem?_eq_getElem hjm)
        rw [Nat.mul_comm, Nat.div_add_mod, add_none] at this
        exact this
      refine ⟨(List.range len).map g, ⟨by simp; unfold maxLen at hcap ⊢; omega, ?_, ?_⟩, rfl, CR.one (.sl bk off sz _ _ _ (fun j => (W.cell? ⟨bk, off + j, none⟩).getD .nilFunc) (by simp) hl hcap hszs (fun j c hj => ?_) (fun j c hj => ?_)) rfl⟩
      · have := hw.1
        rw [hb] at this
        simp [reachBytes] at this ⊢
        have h2 : len * b ≤ (elems.length + rest.length) * b := Nat.mul_le_mul_right _ (by omega)
        omega
      · intro x hx
        obtain ⟨i, hi, rfl⟩ := List.mem_map.1 hx
        obtain ⟨_, h2, _⟩ := hg i (by simpa using hi)
        exact h2
      · obtain ⟨u, h1, h2, h3⟩ := hcell j c hj
        rw [h1]; exact MW_some h1 h3
      · obtain ⟨u, h1, h2, h3⟩ := hcell j c hj
        rw [h1]; exact h2

/-- Fields in line: their types; a struct's cells one field behind the other. -/
def roffs (P : Program) : Nat → List TypeId → List Nat
  | _, [] => []
  | o, t :: ts => o :: roffs P (o + P.cellsOf t) ts
def RParts {β : Type} (P : Program) (n : Nat) (ts : List TypeId) (sz : Nat) (e : β → List AV) (B : β → Prop) : Prop :=
  ∀ (H : Type) (enc : TypeId × Value → H) (W : World) (base : Nat) (spare : Nat → Bool) (held : Bool) (cs : List Value) (xs : List (DataW H × List MemPlace)),
    cs.length = sz → xs.length = ts.length →
    (∀ (i : Nat) (t : TypeId) (o : Nat), ts[i]? = some t → (roffs P 0 ts)[i]? = some o → DataW.trod enc P W base spare held n t ((cs.drop o).take (P.cellsOf t)) = xs[i]?) →
    (DataW.weightsEach P ts (xs.map (·.1))).all (· ≤ reachBytes) = true → ∃ y, B y ∧ (e y).length = sz ∧ CR (MW W) (e y) cs
theorem roffs_shift {P : Program} : ∀ (ts : List TypeId) (a b : Nat), roffs P (a + b) ts = (roffs P b ts).map (a + ·)
  | [], a, b => rfl
  | t :: ts, a, b => by
    simp only [roffs, List.map_cons]
    rw [Nat.add_assoc, roffs_shift ts a]
theorem rparts_one {β : Type} {P : Program} {n : Nat} {t : TypeId} {sz : Nat} {f : β → AV} {B : β → Prop} (hc : P.cellsOf t = sz) (h : RUp P n t sz f B) : RParts P n [t] sz (fun y => (f y).cells) B := by
  intro H enc W base spare held cs xs hl hx ht hw
  match xs, hx with
  | [x], _ =>
    have h1 := ht 0 t 0 rfl rfl
    rw [List.drop_zero, List.take_of_length_le (by omega)] at h1
    simp only [DataW.weightsEach, List.map_cons, List.map_nil, List.append_nil] at hw
    exact h n (Nat.le_refl _) H enc W base spare held cs x.1 x.2 (by rw [h1]; rfl) hw
theorem rparts_cons {α β : Type} {P : Program} {n : Nat} {t : TypeId} {ts : List TypeId} {sa sb : Nat} {f : α → AV} {e : β → List AV} {A : α → Prop} {B : β → Prop} (hc : P.cellsOf t = sa) (h : RUp P n t sa f A) (hr : RParts P n ts sb e B) :
    RParts P n (t :: ts) (sa + sb) (fun y : α × β => (f y.1).cells ++ e y.2) (fun y => A y.1 ∧ B y.2) := by
  intro H enc W base spare held cs xs hl hx ht hw
  cases xs with
  | nil => simp at hx
  | cons x xs =>
    simp only [DataW.weightsEach, List.map_cons, List.all_append, Bool.and_eq_true] at hw
    have h1 := ht 0 t 0 rfl rfl
    rw [List.drop_zero, hc] at h1
    obtain ⟨y1, hA, l1, hy1⟩ := h n (Nat.le_refl _) H enc W base spare held (cs.take sa) x.1 x.2 (by rw [h1]; rfl) hw.1
    obtain ⟨y2, hB, l2, hy2⟩ := hr H enc W base spare held (cs.drop sa) xs (by rw [List.length_drop]; omega) (by simpa using hx) (fun i t' o hi ho => by
      have h2 := ht (i + 1) t' (sa + o) (by simpa using hi) (by
        simp only [roffs, Nat.zero_add, List.getElem?_cons_succ]
        rw [← Nat.add_zero (P.cellsOf t), roffs_shift, List.getElem?_map, ho, hc]; rfl)
      rw [List.drop_drop]
      simpa using h2) hw.2
    refine ⟨(y1, y2), ⟨hA, hB⟩, by simp [l1, l2], ?_⟩
    have := hy1.append hy2
    rwa [List.take_append_drop] at this
theorem rstruct {α β : Type} {P : Program} {n : Nat} {t : TypeId} {fs : Array Field} {ts : List TypeId} {sz : Nat} {e : β → List AV} {f : α → AV} {B : β → Prop} {B' : α → Prop} {g : β → α} (ht : P.underlying t = some (.struct fs)) (hc : P.cellsOf t = sz)
    (hts : fs.toList.map (·.type) = ts) (hos : fs.toList.map (·.offset) = roffs P 0 ts) (hfg : ∀ y, (f (g y)).cells = e y) (hB : ∀ y, B y → B' (g y)) (h : ∀ m, m ≤ n → RParts P m ts sz e B) :
    RUp P (n + 1) t sz f B' := by
  intro m hm H enc W base spare held cs dat ps hd hw
  obtain ⟨xs, k, rfl, hx, hl, hlen, hf⟩ := DataW.trod_struct ht hd
  obtain ⟨rfl, _⟩ := Prod.mk.inj hx
  simp only [DataW.weights, ht] at hw
  rw [hts] at hw
  have hsz : fs.size = ts.length := by rw [← hts]; simp
  obtain ⟨y, hBy, hy, hCR⟩ := h k (by omega) H enc W base spare held cs xs (by rw [hl, hc]) (by rw [hlen, hsz]) (fun i t' o hi ho => by
    have hi' : i < fs.size := by have := (List.getElem?_eq_some_iff.1 hi).1; omega
    have h1 := hf i fs[i] (Array.getElem?_eq_getElem hi')
    have e1 : fs[i].type = t' := by
      have : (fs.toList.map (·.type))[i]? = some t' := by rw [hts]; exact hi
      rw [List.getElem?_map, List.getElem?_eq_getElem (by simpa using hi')] at this
      simpa using this
    have e2 : fs[i].offset = o := by
      have : (fs.toList.map (·.offset))[i]? = some o := by rw [hos]; exact ho
      rw [List.getElem?_map, List.getElem?_eq_getElem (by simpa using hi')] at this
      simpa using this
    rw [e1, e2] at h1
    exact h1) hw
  exact ⟨g y, hB y hBy, by rw [hfg]; exact hy, by rw [hfg]; exact hCR⟩

/-- An array of few elements, as a struct of as many fields. -/
theorem roffs_rep {P : Program} {e : TypeId} : ∀ (len o i : Nat), i < len → (roffs P o (List.replicate len e))[i]? = some (o + i * P.cellsOf e)
  | 0, o, i, h => by omega
  | len + 1, o, 0, h => by simp [List.replicate_succ, roffs]
  | len + 1, o, i + 1, h => by
    rw [List.replicate_succ, roffs, List.getElem?_cons_succ, roffs_rep len _ i (by omega), Nat.succ_mul]
    congr 1; omega
theorem rweights_rep {H : Type} {P : Program} {e : TypeId} : ∀ (l : List (DataW H)), DataW.weightsEach P (List.replicate l.length e) l = DataW.weightsAll P e l
  | [] => rfl
  | x :: l => by
    rw [List.length_cons, List.replicate_succ]
    simp only [DataW.weightsEach, DataW.weightsAll]
    rw [rweights_rep l]
theorem rarray {α β : Type} {P : Program} {n : Nat} {t e : TypeId} {len : Nat} {ts : List TypeId} {sz : Nat} {el : β → List AV} {f : α → AV} {B : β → Prop} {B' : α → Prop} {g : β → α} (ht : P.underlying t = some (.array len e)) (hc : P.cellsOf t = sz)
    (hts : ts = List.replicate len e) (hfg : ∀ y, (f (g y)).cells = el y) (hB : ∀ y, B y → B' (g y)) (h : ∀ m, m ≤ n → RParts P m ts sz el B) :
    RUp P (n + 1) t sz f B' := by
  subst hts
  intro m hm H enc W base spare held cs dat ps hd hw
  obtain ⟨xs, k, rfl, hx, hl, hlen, hf⟩ := DataW.trod_array ht hd
  obtain ⟨rfl, _⟩ := Prod.mk.inj hx
  simp only [DataW.weights, ht] at hw
  obtain ⟨y, hBy, hy, hCR⟩ := h k (by omega) H enc W base spare held cs xs (by rw [hl, hc]) (by rw [hlen]; simp) (fun i t' o hi ho => by
    have hi' : i < len := by have := (List.getElem?_eq_some_iff.1 hi).1; simpa using this
    have e1 : t' = e := by
      rw [List.getElem?_replicate, if_pos hi'] at hi
      exact (Option.some.inj hi).symm
    subst e1
    rw [roffs_rep _ _ _ hi', Nat.zero_add] at ho
    obtain rfl := Option.some.inj ho
    exact hf i hi') (by
    have := rweights_rep (P := P) (e := e) (xs.map (·.1))
    rw [List.length_map, hlen] at this
    rw [this]; exact hw)
  exact ⟨g y, hB y hBy, by rw [hfg]; exact hy, by rw [hfg]; exact hCR⟩

/-- One argument, taken up. -/
theorem rweights_of {H : Type} {P : Program} {ts : List TypeId} {ds : List (DataW H)} (h : (DataW.weightsEach P ts ds).all (· ≤ reachBytes) = true) {j : Nat} {t : TypeId} {d : DataW H} (ht : ts[j]? = some t) (hd : ds[j]? = some d) :
    (d.weights P t).all (· ≤ reachBytes) = true :=
  List.all_eq_true.2 fun n hn => List.all_eq_true.1 h n (DataW.weights_mem_each ht hd n hn)
/-- What an argument is by its type: a struct's cells, or one cell. -/
def isAggB (P : Program) (t : TypeId) : Bool := match P.underlying t with | some (.struct _) | some (.array _ _) => true | _ => false
theorem okWide_one {P : Program} {w : World} {r : Reach} {base : Nat} {t : TypeId} {v : Value} (ht : (∃ k, P.underlying t = some (.int k)) ∨ P.underlying t = some .bool ∨ P.underlying t = some .string ∨ ∃ e, P.underlying t = some (.slice e)) (h : Value.okWide P w r base t v) : v.cells = #[v] := by
  rcases ht with ⟨k, ht⟩ | ht | ht | ⟨e, ht⟩
  · obtain ⟨n, rfl⟩ := Go.WideShapes.okWide_int ht h; rfl
  · obtain ⟨n, rfl⟩ := Go.WideShapes.okWide_bool ht h; rfl
  · obtain ⟨n, rfl⟩ := Go.WideShapes.okWide_string ht h; rfl
  · obtain ⟨a, l, c, rfl⟩ := Go.WideShapes.okWide_slice ht h; rfl
theorem take_one {H : Type} {enc : TypeId × Value → H} {α : Type} {P : Program} {t : TypeId} {f : α → AV} {B : α → Prop} {W : World} {base : Nat} {spare : Nat → Bool} {held : Bool} {v : Value} {dat : DataW H} {ps : List MemPlace}
    (h : ∀ n, RUp P n t 1 f B) (hf : ∀ x, (f x).cells = [f x]) (hv : v.cells = #[v]) (ht : DataW.Trod enc P W base spare held t v dat ps) (hw : (dat.weights P t).all (· ≤ reachBytes) = true) : ∃ x, B x ∧ R (MW W) (f x) v := by
  obtain ⟨fuel, hd⟩ := ht
  obtain ⟨x, hB, _, hCR⟩ := h fuel fuel (Nat.le_refl _) H enc W base spare held _ dat ps hd hw
  rw [hf, hv] at hCR
  exact ⟨x, hB, (hCR.2 0 _ _ rfl rfl).1⟩
theorem take_agg {H : Type} {enc : TypeId × Value → H} {α : Type} {P : Program} {t : TypeId} {sz : Nat} {f : α → AV} {B : α → Prop} {W : World} {base : Nat} {spare : Nat → Bool} {held : Bool} {v : Value} {dat : DataW H} {ps : List MemPlace} {vs : Array Value}
    (h : ∀ n, RUp P n t sz f B) (hf : ∀ x, f x = .agg (f x).cells) (hv : v = .agg vs) (ht : DataW.Trod enc P W base spare held t v dat ps) (hw : (dat.weights P t).all (· ≤ reachBytes) = true) : ∃ x, B x ∧ R (MW W) (f x) v := by
  subst hv
  obtain ⟨fuel, hd⟩ := ht
  obtain ⟨x, hB, _, hCR⟩ := h fuel fuel (Nat.le_refl _) H enc W base spare held _ dat ps hd hw
  refine ⟨x, hB, ?_⟩
  rw [hf]
  have e : (Value.agg vs).cells.toList = vs.toList := rfl
  rw [e] at hCR
  refine .agg _ _ (by simpa using hCR.1) (fun j u hu => ?_) (fun j c u hc hu => ?_)
  · have hj : j < (f x).cells.length := by have := hCR.1; have h2 := (Array.getElem?_eq_some_iff.1 hu).1; simp at this; omega
    exact (hCR.2 j _ u (List.getElem?_eq_getElem hj) (by simpa using hu)).2
  · exact (hCR.2 j c u hc (by simpa using hu)).1
end Go.Proofs.YtenigafbbdjagaaDoor.AL
