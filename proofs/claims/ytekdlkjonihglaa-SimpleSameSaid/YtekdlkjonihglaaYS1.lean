/- Predicates made simpler: what it computes; the plain law. -/
import Derived.Test.YtekdlkjonihglaaYF21
import Derived.Test.YtekdlkjonihglaaYF22
import Derived.Test.YtekdlkjonihglaaYF13
namespace Go.Proofs.Ytekdlkjonihglaa.AL
open Go
set_option linter.unusedVariables false
set_option linter.unusedSimpArgs false
set_option maxRecDepth 4000
def truthP (t : Int) : Prd := .mk 1 t 0 trmZ trmZ []
def isP (p : Prd) (t : Int) : Bool := decide (p.kind = 1) && decide (p.truth = t)
def hasP (l : List Prd) (t : Int) : Bool := l.any fun p => isP p t
def stepS (w : Int) (s : List Prd × Bool) (p : Prd) : List Prd × Bool := if (isP p w || (isP p 1 && s.2)) = true then s else (s.1 ++ [p], s.2 || isP p 1)
def thinS (w : Int) (l : List Prd) : List Prd × Bool := l.foldl (stepS w) ([], false)
def thinF (w : Int) (l : List Prd) : List Prd := (thinS w l).1
def openF (kind : Int) (l : List Prd) : List Prd := l.flatMap fun p => if p.kind = kind then p.parts else [p]
def flatP (kind : Int) (l : List Prd) : List Prd := if (openF kind l).length > 4 then l else openF kind l
def packF (kind w : Int) : List Prd → Prd
  | [] => truthP w
  | [x] => x
  | x :: y :: l => .mk kind 0 0 trmZ trmZ (x :: y :: l)
def manyF (kind w a : Int) (l : List Prd) : Prd :=
  if hasP l a = true then truthP a else if hasP (flatP kind (thinF w l)) a = true then truthP a else packF kind w (thinF w (flatP kind (thinF w l)))
def togF (kind w : Int) (l : List Prd) : Prd :=
  if hasP l (2 - w) = true then truthP (2 - w) else packF kind w (if (openF kind (thinF w l)).length ≤ 4 then thinF w (openF kind (thinF w l)) else thinF w l)
def notP (p : Prd) : Prd := if p.kind = 1 then truthP (2 - ofF p.truth) else if p.kind = 6 then p.parts.headD p else .mk 6 0 0 trmZ trmZ [p]
def simpK (p : Prd) (l : List Prd) : Prd :=
  if p.kind = 2 then (if p.a.kind = 2 ∧ p.b.kind = 2 then truthP (refCmpF p.op p.a.v p.b.v) else p)
  else if p.kind = 3 then (if p.a.kind = 2 then truthP (truthF p.a.v.null) else p)
  else if p.kind = 6 then notP (l.headD p) else if p.kind = 4 then manyF 4 2 0 l else if p.kind = 5 then manyF 5 0 2 l else p
mutual
def simpF : Prd → Prd
  | .mk k t o a b ps => simpK (.mk k t o a b ps) (simpL ps)
def simpL : List Prd → List Prd
  | [] => []
  | p :: l => simpF p :: simpL l
end
theorem simpL_map : ∀ l, simpL l = l.map simpF
  | [] => rfl
  | p :: l => by simp only [simpL, List.map_cons, simpL_map l]
theorem simpF_eq (p : Prd) : simpF p = simpK p (p.parts.map simpF) := by cases p; rw [simpF, simpL_map]; rfl

/-! ### What thinning keeps -/
/-- Two lists that differ by what the first leaves out. -/
theorem thinS_snoc (w : Int) (l : List Prd) (p : Prd) : thinS w (l ++ [p]) = stepS w (thinS w l) p := by simp [thinS, List.foldl_append]
theorem thinS_take {w : Int} {l : List Prd} {k : Nat} (h : k < l.length) : thinS w (l.take (k + 1)) = stepS w (thinS w (l.take k)) l[k] := by
  rw [List.take_succ_eq_append_getElem h, thinS_snoc]
/-- Induction from the back. -/
theorem snoc_ind {α : Type} {C : List α → Prop} (h0 : C []) (h1 : ∀ l x, C l → C (l ++ [x])) (l : List α) : C l := by
  rw [← List.reverse_reverse l]
  induction l.reverse with
  | nil => exact h0
  | cons x m ih => rw [List.reverse_cons]; exact h1 _ _ ih
theorem thin_unk (w : Int) (l : List Prd) : (thinS w l).2 = hasP (thinS w l).1 1 := by
  refine snoc_ind (C := fun l => (thinS w l).2 = hasP (thinS w l).1 1) rfl (fun l x ih => ?_) l
  rw [thinS_snoc]
  unfold stepS
  split
  · exact ih
  · simp only [hasP, List.any_append, List.any_cons, List.any_nil, Bool.or_false] at ih ⊢
    rw [ih]
theorem thin_mem {w : Int} {l : List Prd} : ∀ x ∈ thinF w l, x ∈ l ∧ isP x w = false := by
  unfold thinF
  refine snoc_ind (C := fun l => ∀ x ∈ (thinS w l).1, x ∈ l ∧ isP x w = false) (by simp [thinS]) (fun l x ih => ?_) l
  rw [thinS_snoc]
  unfold stepS
  split
  · intro y hy; exact ⟨List.mem_append_left _ (ih y hy).1, (ih y hy).2⟩
  · rename_i h
    intro y hy
    rcases List.mem_append.1 hy with hy | hy
    · exact ⟨List.mem_append_left _ (ih y hy).1, (ih y hy).2⟩
    · simp only [List.mem_singleton] at hy
      subst hy
      refine ⟨by simp, ?_⟩
      cases hw : isP y w
      · rfl
      · simp [hw] at h
theorem thin_len (w : Int) (l : List Prd) : (thinF w l).length ≤ l.length := by
  unfold thinF
  refine snoc_ind (C := fun l => (thinS w l).1.length ≤ l.length) (by simp [thinS]) (fun l x ih => ?_) l
  rw [thinS_snoc]
  unfold stepS
  split
  · rw [List.length_append]; omega
  · simp only [List.length_append, List.length_cons, List.length_nil]; omega
/-- A sum over what is left is no greater. -/
theorem thin_sum (g : Prd → Nat) (w : Int) (l : List Prd) : ((thinF w l).map g).sum ≤ (l.map g).sum := by
  unfold thinF
  refine snoc_ind (C := fun l => ((thinS w l).1.map g).sum ≤ (l.map g).sum) (by simp [thinS]) (fun l x ih => ?_) l
  rw [thinS_snoc]
  unfold stepS
  split
  · simp only [List.map_append, List.sum_append]; omega
  · simp only [List.map_append, List.sum_append, List.map_cons, List.map_nil]; omega
theorem isP_two {x : Prd} {s t : Int} (h1 : isP x s = true) (h2 : isP x t = true) : s = t := by
  simp only [isP, Bool.and_eq_true, decide_eq_true_eq] at h1 h2
  rw [← h1.2, h2.2]
/-- A second thinning leaves all. -/
theorem thin_idem (w : Int) (l : List Prd) : thinF w (thinF w l) = thinF w l := by
  have key : thinS w (thinS w l).1 = thinS w l := by
    refine snoc_ind (C := fun l => thinS w (thinS w l).1 = thinS w l) (by simp [thinS]) (fun l x ih => ?_) l
    rw [thinS_snoc]
    by_cases h : (isP x w || (isP x 1 && (thinS w l).2)) = true
    · have e : stepS w (thinS w l) x = thinS w l := by unfold stepS; rw [if_pos h]
      rw [e, ih]
    · have e : stepS w (thinS w l) x = ((thinS w l).1 ++ [x], (thinS w l).2 || isP x 1) := by unfold stepS; rw [if_neg h]
      rw [e]
      simp only
      rw [thinS_snoc, ih, e]
  unfold thinF; rw [key]
theorem hasP_no {l : List Prd} {t : Int} : hasP l t = false ↔ ∀ x ∈ l, isP x t = false := by
  unfold hasP; rw [List.any_eq_false]; simp
theorem thin_has {w a : Int} {l : List Prd} (h : hasP l a = false) : hasP (thinF w l) a = false :=
  hasP_no.2 fun x hx => hasP_no.1 h x (thin_mem x hx).1
theorem open_mem {kind : Int} {l : List Prd} {y : Prd} (h : y ∈ openF kind l) : (∃ x ∈ l, x.kind = kind ∧ y ∈ x.parts) ∨ (y ∈ l ∧ y.kind ≠ kind) := by
  unfold openF at h
  obtain ⟨x, hx, hy⟩ := List.mem_flatMap.1 h
  by_cases e : x.kind = kind
  · rw [if_pos e] at hy; exact .inl ⟨x, hx, e, hy⟩
  · rw [if_neg e] at hy
    simp only [List.mem_singleton] at hy
    subst hy; exact .inr ⟨hx, e⟩
theorem open_has {kind a : Int} {l : List Prd} (h : hasP l a = false) (hp : ∀ x ∈ l, x.kind = kind → hasP x.parts a = false) : hasP (openF kind l) a = false :=
  hasP_no.2 fun y hy => by
    rcases open_mem hy with ⟨x, hx, e, hm⟩ | ⟨hm, _⟩
    · exact hasP_no.1 (hp x hx e) y hm
    · exact hasP_no.1 h y hm
theorem flat_mem {kind : Int} {l : List Prd} {y : Prd} (h : y ∈ flatP kind l) : (∃ x ∈ l, x.kind = kind ∧ y ∈ x.parts) ∨ y ∈ l := by
  unfold flatP at h
  split at h
  · exact .inr h
  · exact (open_mem h).imp id (·.1)
theorem flat_has {kind a : Int} {l : List Prd} (h : hasP l a = false) (hp : ∀ x ∈ l, x.kind = kind → hasP x.parts a = false) : hasP (flatP kind l) a = false := by
  unfold flatP; split
  · exact h
  · exact open_has h hp
theorem many_eq {kind w a : Int} {l : List Prd} (h : hasP l a = false) (hp : ∀ x ∈ l, x.kind = kind → hasP x.parts a = false) : manyF kind w a l = packF kind w (thinF w (flatP kind (thinF w l))) := by
  have h1 := flat_has (kind := kind) (thin_has (w := w) h) fun x hx e => hp x (thin_mem x hx).1 e
  unfold manyF; rw [if_neg (by simp [h]), if_neg (by simp [h1])]
/-- Both ways put together the same. -/
theorem tog_many {kind w a : Int} (hw : a = 2 - w) {l : List Prd} (hp : ∀ x ∈ l, x.kind = kind → hasP x.parts a = false) : togF kind w l = manyF kind w a l := by
  subst hw
  cases h : hasP l (2 - w)
  · rw [many_eq h hp]
    unfold togF flatP
    rw [if_neg (by simp [h])]
    by_cases h4 : (openF kind (thinF w l)).length ≤ 4
    · rw [if_pos h4, if_neg (by omega)]
    · rw [if_neg h4, if_pos (by omega), thin_idem]
  · unfold togF manyF; rw [if_pos h, if_pos h]

/-! ### A simpler predicate may be, if the predicate may -/
theorem atF_d {p : Prd} {d : Int} (h : atF p d = true) : d ≤ 4 := by
  rw [atF_eq] at h; simp only [Bool.and_eq_true, decide_eq_true_eq] at h; exact h.1
theorem atF_head {p : Prd} {d : Int} (h : atF p d = true) : headF p = true := by
  rw [atF_eq] at h; simp only [Bool.and_eq_true] at h; exact h.2.1
theorem atF_part {p x : Prd} {d : Int} (h : atF p d = true) (hx : x ∈ p.parts) : atF x (d + 1) = true := by
  rw [atF_eq] at h; simp only [Bool.and_eq_true, List.all_eq_true] at h; exact h.2.2 x hx
theorem atF_mk {p : Prd} {d : Int} (h : d ≤ 4) (hh : headF p = true) (hp : ∀ x ∈ p.parts, atF x (d + 1) = true) : atF p d = true := by
  rw [atF_eq]; simp only [Bool.and_eq_true, decide_eq_true_eq, List.all_eq_true]; exact ⟨h, hh, hp⟩
theorem atF_up (p : Prd) : ∀ {d e : Int}, d ≤ e → atF p e = true → atF p d = true := by
  induction p using Prd.ind
  rename_i p ih
  intro d e hde h
  exact atF_mk (by have := atF_d h; omega) (atF_head h) fun x hx => ih x hx (by omega) (atF_part h hx)
theorem truth_at {t d : Int} (ht : 0 ≤ t ∧ t ≤ 2) (hd : d ≤ 4) : atF (truthP t) d = true := by
  refine atF_mk hd ?_ fun x hx => by simp [truthP, Prd.parts] at hx
  simp [headF, bareF, truthP, Prd.kind, Prd.truth, Prd.op, Prd.a, Prd.b, Prd.parts, trm0, trmZ, trmEqF, ht.1, ht.2]
theorem mk_head {kind : Int} (hk : kind = 4 ∨ kind = 5) {l : List Prd} (hl : l.length ≤ 4) : headF (.mk kind 0 0 trmZ trmZ l) = true := by
  rcases hk with rfl | rfl <;> simp [headF, bareF, Prd.kind, Prd.truth, Prd.op, Prd.a, Prd.b, Prd.parts, trm0, trmZ, trmEqF, hl]
theorem not_head (x : Prd) : headF (.mk 6 0 0 trmZ trmZ [x]) = true := by
  simp [headF, bareF, Prd.kind, Prd.truth, Prd.op, Prd.a, Prd.b, Prd.parts, trm0, trmZ, trmEqF]
theorem head_kind {p : Prd} (h : headF p = true) : p.kind = 1 ∨ p.kind = 2 ∨ p.kind = 3 ∨ p.kind = 4 ∨ p.kind = 5 ∨ p.kind = 6 := by
  unfold headF at h
  simp only [Bool.and_eq_true] at h
  have h2 := h.2
  by_cases e1 : p.kind = 1
  · exact .inl e1
  · by_cases e2 : p.kind = 2
    · exact .inr (.inl e2)
    · by_cases e3 : p.kind = 3
      · exact .inr (.inr (.inl e3))
      · by_cases e4 : p.kind = 4
        · omega
        · by_cases e5 : p.kind = 5
          · omega
          · by_cases e6 : p.kind = 6
            · omega
            · simp [e1, e2, e3, e4, e5, e6] at h2
theorem head_truth {p : Prd} (h : headF p = true) (hk : p.kind = 1) : 0 ≤ p.truth ∧ p.truth ≤ 2 := by
  unfold headF at h
  simp only [Bool.and_eq_true, hk, if_true, decide_eq_true_eq] at h
  exact h.2.2
theorem head_len {p : Prd} (h : headF p = true) (hk : p.kind = 4 ∨ p.kind = 5) : p.parts.length ≤ 4 := by
  unfold headF at h
  simp only [Bool.and_eq_true] at h
  have h2 := h.2
  rcases hk with hk | hk <;> simpa [hk] using h2
theorem head_one {p : Prd} (h : headF p = true) (hk : p.kind = 6) : ∃ x, p.parts = [x] := by
  unfold headF at h
  simp only [Bool.and_eq_true] at h
  have h2 := h.2
  simp [hk] at h2
  exact List.length_eq_one_iff.1 h2
theorem head_none {p : Prd} (h : headF p = true) (hk : p.kind = 1 ∨ p.kind = 2 ∨ p.kind = 3) : p.parts = [] := by
  unfold headF at h
  simp only [Bool.and_eq_true] at h
  have h2 := h.2
  rcases hk with hk | hk | hk <;> simp [hk] at h2 <;> exact List.eq_nil_of_length_eq_zero (by simp [h2.1])
theorem parts_len {p : Prd} (h : headF p = true) : p.parts.length ≤ 4 := by
  rcases head_kind h with hk | hk | hk | hk | hk | hk
  · rw [head_none h (.inl hk)]; simp
  · rw [head_none h (.inr (.inl hk))]; simp
  · rw [head_none h (.inr (.inr hk))]; simp
  · exact head_len h (.inl hk)
  · exact head_len h (.inr hk)
  · obtain ⟨x, hx⟩ := head_one h hk; rw [hx]; simp
theorem cmp_in (op : Int) (a b : Val) : 0 ≤ refCmpF op a b ∧ refCmpF op a b ≤ 2 := by
  have ht : ∀ b : Bool, 0 ≤ truthF b ∧ truthF b ≤ 2 := fun b => by cases b <;> simp [truthF]
  unfold refCmpF
  repeat' split
  all_goals first | exact ht _ | omega
theorem truthF_in (b : Bool) : 0 ≤ truthF b ∧ truthF b ≤ 2 := by cases b <;> simp [truthF]
theorem ofF_in (t : Int) : 0 ≤ ofF t ∧ ofF t ≤ 2 := by unfold ofF; split <;> omega
theorem ofF_id {t : Int} (h : 0 ≤ t ∧ t ≤ 2) : ofF t = t := if_pos h
/-- And and Or made simpler hold no truth that were all. -/
def NoAll (p : Prd) : Prop := (p.kind = 4 → hasP p.parts 0 = false) ∧ (p.kind = 5 → hasP p.parts 2 = false)
theorem pack_at {kind w d : Int} (hk : kind = 4 ∨ kind = 5) (hw : 0 ≤ w ∧ w ≤ 2) (hd : d ≤ 4) {l : List Prd} (hl : l.length ≤ 4) (hm : ∀ x ∈ l, atF x (d + 1) = true) : atF (packF kind w l) d = true := by
  match l, hl, hm with
  | [], _, _ => exact truth_at hw hd
  | [x], _, hm => exact atF_up x (by omega) (hm x (by simp))
  | x :: y :: l, hl, hm => exact atF_mk hd (mk_head hk hl) hm
theorem pack_no {kind w a : Int} (hk : (kind = 4 ∧ a = 0) ∨ (kind = 5 ∧ a = 2)) {l : List Prd} (h : hasP l a = false) (hm : ∀ x ∈ l, NoAll x) : NoAll (packF kind w l) := by
  match l, h, hm with
  | [], _, _ => exact ⟨fun e => by simp [packF, truthP, Prd.kind] at e, fun e => by simp [packF, truthP, Prd.kind] at e⟩
  | [x], _, hm => exact hm x (by simp)
  | x :: y :: l, h, hm =>
    rcases hk with ⟨rfl, rfl⟩ | ⟨rfl, rfl⟩
    · exact ⟨fun _ => h, fun e => by simp [packF, Prd.kind] at e⟩
    · exact ⟨fun e => by simp [packF, Prd.kind] at e, fun _ => h⟩
theorem truth_no (t : Int) : NoAll (truthP t) := ⟨fun e => by simp [truthP, Prd.kind] at e, fun e => by simp [truthP, Prd.kind] at e⟩
theorem flat_len {kind : Int} {l : List Prd} (h : l.length ≤ 4) : (flatP kind l).length ≤ 4 := by unfold flatP; split <;> omega
theorem many_ok {kind w a d : Int} (hk : (kind = 4 ∧ w = 2 ∧ a = 0) ∨ (kind = 5 ∧ w = 0 ∧ a = 2)) (hd : d ≤ 4) {l : List Prd} (hl : l.length ≤ 4) (hm : ∀ x ∈ l, atF x (d + 1) = true ∧ NoAll x) (hn : ∀ x ∈ l, x.kind = kind → ∀ y ∈ x.parts, NoAll y) :
    atF (manyF kind w a l) d = true ∧ NoAll (manyF kind w a l) := by
  have hp : ∀ x ∈ l, x.kind = kind → hasP x.parts a = false := fun x hx e => by
    rcases hk with ⟨rfl, _, rfl⟩ | ⟨rfl, _, rfl⟩
    · exact (hm x hx).2.1 e
    · exact (hm x hx).2.2 e
  cases h : hasP l a
  · rw [many_eq h hp]
    have h1 := flat_has (kind := kind) (thin_has (w := w) h) fun x hx e => hp x (thin_mem x hx).1 e
    have hmem : ∀ y ∈ thinF w (flatP kind (thinF w l)), atF y (d + 1) = true ∧ NoAll y := fun y hy => by
      rcases flat_mem (thin_mem y hy).1 with ⟨x, hx, e, hm'⟩ | hm'
      · have hx' := (thin_mem x hx).1
        exact ⟨atF_up y (by omega) (atF_part (hm x hx').1 hm'), hn x hx' e y hm'⟩
      · exact hm y (thin_mem y hm').1
    have hlen : (thinF w (flatP kind (thinF w l))).length ≤ 4 := Nat.le_trans (thin_len _ _) (flat_len (Nat.le_trans (thin_len _ _) hl))
    exact ⟨pack_at (by omega) (by omega) hd hlen fun y hy => (hmem y hy).1, pack_no (by omega) (thin_has h1) fun y hy => (hmem y hy).2⟩
  · unfold manyF; rw [if_pos h]
    exact ⟨truth_at (by omega) hd, truth_no a⟩
/-- All within hold no truth that were all. -/
inductive Deep : Prd → Prop
  | mk (p : Prd) (h : NoAll p) (hp : ∀ x ∈ p.parts, Deep x) : Deep p
theorem Deep.no {p : Prd} (h : Deep p) : NoAll p := by cases h; assumption
theorem Deep.part {p x : Prd} (h : Deep p) (hx : x ∈ p.parts) : Deep x := by cases h with | mk _ _ hp => exact hp x hx
theorem Deep.leaf {p : Prd} (h : p.parts = []) (hk : p.kind ≠ 4 ∧ p.kind ≠ 5) : Deep p := .mk p ⟨fun e => absurd e hk.1, fun e => absurd e hk.2⟩ fun x hx => by rw [h] at hx; simp at hx
theorem truth_deep (t : Int) : Deep (truthP t) := .leaf rfl ⟨by simp [truthP, Prd.kind], by simp [truthP, Prd.kind]⟩
theorem pack_deep {kind w : Int} {l : List Prd} (hn : NoAll (packF kind w l)) (hm : ∀ x ∈ l, Deep x) : Deep (packF kind w l) := by
  match l, hn, hm with
  | [], _, _ => exact truth_deep w
  | [x], _, hm => exact hm x (by simp)
  | x :: y :: l, hn, hm => exact .mk _ hn hm
theorem many_deep {kind w a d : Int} (hk : (kind = 4 ∧ w = 2 ∧ a = 0) ∨ (kind = 5 ∧ w = 0 ∧ a = 2)) (hd : d ≤ 4) {l : List Prd} (hl : l.length ≤ 4) (hm : ∀ x ∈ l, atF x (d + 1) = true ∧ Deep x) :
    atF (manyF kind w a l) d = true ∧ Deep (manyF kind w a l) := by
  have h1 := many_ok hk hd hl (fun x hx => ⟨(hm x hx).1, (hm x hx).2.no⟩) fun x hx _ y hy => ((hm x hx).2.part hy).no
  refine ⟨h1.1, ?_⟩
  have hn := h1.2
  have hp : ∀ x ∈ l, x.kind = kind → hasP x.parts a = false := fun x hx e => by
    rcases hk with ⟨rfl, _, rfl⟩ | ⟨rfl, _, rfl⟩
    · exact (hm x hx).2.no.1 e
    · exact (hm x hx).2.no.2 e
  cases h : hasP l a
  · rw [many_eq h hp] at hn ⊢
    refine pack_deep hn fun y hy => ?_
    rcases flat_mem (thin_mem y hy).1 with ⟨x, hx, e, hm'⟩ | hm'
    · exact (hm x (thin_mem x hx).1).2.part hm'
    · exact (hm y (thin_mem y hm').1).2
  · unfold manyF; rw [if_pos h]; exact truth_deep a
theorem not_deep {x : Prd} {d : Int} (hd : d ≤ 4) (h : atF x (d + 1) = true) (hx : Deep x) : atF (notP x) d = true ∧ Deep (notP x) := by
  unfold notP
  by_cases h1 : x.kind = 1
  · rw [if_pos h1]
    exact ⟨truth_at (by have := ofF_in x.truth; omega) hd, truth_deep _⟩
  · rw [if_neg h1]
    by_cases h6 : x.kind = 6
    · rw [if_pos h6]
      obtain ⟨y, hy⟩ := head_one (atF_head h) h6
      have hm : y ∈ x.parts := by rw [hy]; simp
      rw [hy]
      exact ⟨atF_up y (by omega) (atF_part h hm), hx.part hm⟩
    · rw [if_neg h6]
      refine ⟨atF_mk hd (not_head x) fun y hy => ?_, .mk _ ⟨fun e => by simp [Prd.kind] at e, fun e => by simp [Prd.kind] at e⟩ fun y hy => ?_⟩
      · simp only [Prd.parts, List.mem_singleton] at hy; subst hy; exact h
      · simp only [Prd.parts, List.mem_singleton] at hy; subst hy; exact hx
/-- Made simpler, it may be as deep. -/
theorem simp_at (p : Prd) : ∀ {d : Int}, atF p d = true → atF (simpF p) d = true ∧ Deep (simpF p) := by
  induction p using Prd.ind
  rename_i p ih
  intro d h
  have hd := atF_d h
  have hh := atF_head h
  have hl := parts_len hh
  have hm : ∀ x ∈ p.parts.map simpF, atF x (d + 1) = true ∧ Deep x := fun x hx => by
    obtain ⟨y, hy, rfl⟩ := List.mem_map.1 hx
    exact ih y hy (atF_part h hy)
  rw [simpF_eq]
  unfold simpK
  rcases head_kind hh with hk | hk | hk | hk | hk | hk <;> simp only [hk, Int.reduceEq, if_true, if_false]
  · exact ⟨h, .leaf (head_none hh (.inl hk)) ⟨by omega, by omega⟩⟩
  · split
    · exact ⟨truth_at (cmp_in _ _ _) hd, truth_deep _⟩
    · exact ⟨h, .leaf (head_none hh (.inr (.inl hk))) ⟨by omega, by omega⟩⟩
  · split
    · exact ⟨truth_at (truthF_in _) hd, truth_deep _⟩
    · exact ⟨h, .leaf (head_none hh (.inr (.inr hk))) ⟨by omega, by omega⟩⟩
  · exact many_deep (.inl ⟨rfl, rfl, rfl⟩) hd (by simpa using hl) hm
  · exact many_deep (.inr ⟨rfl, rfl, rfl⟩) hd (by simpa using hl) hm
  · obtain ⟨x, hx⟩ := head_one hh hk
    rw [hx] at hm ⊢
    have := hm (simpF x) (by simp)
    exact not_deep hd this.1 this.2
end Go.Proofs.Ytekdlkjonihglaa.AL
