/- What pred.Of comes to is among the three truths that reject.May tells, of rows in which the null tables' columns are null. -/
import Derived.Test.YtigkkfhpnfjmhaaPRejMx6
import Derived.Test.YtigkkfhpnfjmhaaPRejMx6
import Derived.Test.YtigkkfhpnfjmhaaPRejMx2
import Derived.Test.YtigkkfhpnfjmhaaMayOfRejM
namespace Go.Proofs.Ytigkkfhpnfjmhaa.OfMayRejM
open Go.RowKit Go.Proofs.Ytigkkfhpnfjmhaa.PRejM Go.Proofs.YtigkkfhpnfjmhaaW.PrintWords Go.Proofs.YtigkkfhpnfjmhaaW.PrintLast Go.Proofs.YtigkkfhpnfjmhaaW.PrintMore Go.Proofs.Ytigkkfhpnfjmhaa.Bits Go.Proofs.Ytigkkfhpnfjmhaa.SetHasRejM Go.Proofs.Ytigkkfhpnfjmhaa.MayOfRejM Go.Proofs.Ytigkkfhpnfjmhaa.Opens
set_option linter.unusedVariables false
set_option linter.unusedSimpArgs false

abbrev SV := S42
theorem clamp_of (x : Int) : clamp x = 0 ∨ clamp x = 1 ∨ clamp x = 2 := by unfold clamp; split <;> omega
theorem of_clamp (x : Int) : logic_of.f x = some (clamp x) := by
  unfold logic_of.f logic_Right.f clamp
  by_cases h1 : x ≥ 0
  · rw [if_pos h1, Option.bind_some]
    by_cases h2 : x ≤ 2
    · simp [h1, h2]
    · simp [h1, h2]
  · rw [if_neg h1, Option.bind_some]; simp [h1]
def hasL (l : List Int) (y : Int) : Bool := l.any (fun x => clamp x == y)
theorem rdI {l : List Int} {i : Nat} (h : i < l.length) : rd l (i : Int) = l[i] := by simp [rd, h]
theorem index_loop (l : List Int) (y : Int) (hl : l.length ≤ 9223372036854775807) : ∀ (d i k : Nat), i ≤ l.length → l.length - i = d → d < k →
    ∃ r, slices_IndexFunc_int_int_at_logic_first_1_1.l0 k l (l.length : Int) (i : Int) y = some r ∧ decide (r ≥ 0) = hasL (l.drop i) y := by
  intro d
  induction d with
  | zero =>
    intro i k hi hd hk
    obtain ⟨k, rfl⟩ : ∃ m, k = m + 1 := ⟨k - 1, by omega⟩
    refine ⟨-1, by rw [slices_IndexFunc_int_int_at_logic_first_1_1.l0, if_neg (by omega)], ?_⟩
    rw [List.drop_of_length_le (by omega)]; rfl
  | succ d ih =>
    intro i k hi hd hk
    obtain ⟨k, rfl⟩ : ∃ m, k = m + 1 := ⟨k - 1, by omega⟩
    have hlt : i < l.length := by omega
    rw [slices_IndexFunc_int_int_at_logic_first_1_1.l0, if_pos (by omega), if_pos (by omega), if_pos (by omega), rdI hlt]
    unfold logic_first_1_1.f
    rw [of_clamp, Option.bind_some, Option.bind_some, List.drop_eq_getElem_cons hlt]
    by_cases h : clamp l[i] = y
    · rw [if_pos (by simpa using h)]
      refine ⟨_, rfl, ?_⟩
      simp only [hasL, List.any_cons]
      simp [h]
    · rw [if_neg (by simpa using h), wrap_succ (by omega)]
      obtain ⟨r, h1, h2⟩ := ih (i + 1) k (by omega) (by omega) (by omega)
      refine ⟨r, h1, ?_⟩
      rw [h2]
      simp only [hasL, List.any_cons]
      simp [h]
theorem has_f (l : List Int) (y : Int) (hl : l.length ≤ 9223372036854775807) {k : Nat} (hk : l.length < k) : logic_first_1.f k y l = some (hasL l y) := by
  obtain ⟨r, h1, h2⟩ := index_loop l y hl l.length 0 k (by omega) (by omega) hk
  rw [Int.natCast_zero] at h1
  rw [List.drop_zero] at h2
  unfold logic_first_1.f slices_ContainsFunc_int_int_at_logic_first_1_1.f slices_IndexFunc_int_int_at_logic_first_1_1.f
  rw [h1, Option.bind_some, Option.bind_some, h2]
def andL (l : List Int) : Int := if hasL l 0 = true then 0 else if hasL l 1 = true then 1 else 2
def orL (l : List Int) : Int := if hasL l 2 = true then 2 else if hasL l 1 = true then 1 else 0
theorem andL_of (l : List Int) : andL l = 0 ∨ andL l = 1 ∨ andL l = 2 := by unfold andL; repeat' split <;> omega
theorem orL_of (l : List Int) : orL l = 0 ∨ orL l = 1 ∨ orL l = 2 := by unfold orL; repeat' split <;> omega
theorem and_f (l : List Int) (hl : l.length ≤ 9223372036854775807) {k : Nat} (hk : l.length < k) : logic_And.f k l = some (andL l) := by
  unfold logic_And.f logic_first.f andL
  rw [has_f l 0 hl hk, Option.bind_some]
  by_cases h : hasL l 0 = true
  · rw [if_pos h, if_pos h]; rfl
  · rw [if_neg h, if_neg h, has_f l 1 hl hk, Option.bind_some]
    by_cases h2 : hasL l 1 = true
    · rw [if_pos h2, if_pos h2]; rfl
    · rw [if_neg h2, if_neg h2]; rfl
theorem or_f (l : List Int) (hl : l.length ≤ 9223372036854775807) {k : Nat} (hk : l.length < k) : logic_Or.f k l = some (orL l) := by
  unfold logic_Or.f logic_first.f orL
  rw [has_f l 2 hl hk, Option.bind_some]
  by_cases h : hasL l 2 = true
  · rw [if_pos h, if_pos h]; rfl
  · rw [if_neg h, if_neg h, has_f l 1 hl hk, Option.bind_some]
    by_cases h2 : hasL l 1 = true
    · rw [if_pos h2, if_pos h2]; rfl
    · rw [if_neg h2, if_neg h2]; rfl
theorem not_f {x : Int} (h : x = 0 ∨ x = 1 ∨ x = 2) : logic_Not.f x = some (2 - x) := by
  unfold logic_Not.f
  rw [of_clamp, clamp_is h, Option.bind_some]
  rcases h with rfl | rfl | rfl <;> decide +kernel

/-- The value at a table's column: null where there is none; what a term is. -/
def cell (l : List (List SV)) (t c : Int) : Bool × Int :=
  if 0 ≤ t ∧ t < l.length then
    if 0 ≤ c ∧ c < ((l.getD t.toNat []).length : Int) then (((l.getD t.toNat []).getD c.toNat z42).f0, ((l.getD t.toNat []).getD c.toNat z42).f1) else (true, 0)
  else (true, 0)
def tof (t : ST) (l : List (List SV)) : Bool × Int := if t.f0 = 1 then cell l t.f1 t.f2 else (t.f3.f0, t.f3.f1)
theorem row_f (l : List (List SV)) (t : Int) : term_row.f l t = some (if 0 ≤ t ∧ t < l.length then l.getD t.toNat [] else []) := by
  unfold term_row.f
  by_cases h : t < 0
  · rw [if_pos h, if_neg (by omega)]
  · by_cases h2 : t ≥ l.length
    · rw [if_neg h, if_pos h2, if_neg (by omega)]
    · rw [if_neg h, if_neg h2, if_pos (by omega), if_pos (by omega), if_pos (by omega)]; rfl
theorem tof_f (t : ST) (l : List (List SV)) : term_Of.f t.f0 t.f1 t.f2 t.f3.f0 t.f3.f1 l = some (tof t l) := by
  unfold term_Of.f tof
  by_cases h0 : t.f0 = 1
  · rw [if_pos h0, if_pos h0, row_f, Option.bind_some]
    unfold cell
    by_cases h : 0 ≤ t.f1 ∧ t.f1 < l.length
    · rw [if_pos h, if_pos h]
      generalize l.getD t.f1.toNat [] = r
      by_cases h1 : t.f2 < 0
      · rw [if_pos h1, if_neg (by omega)]
      · by_cases h2 : t.f2 ≥ r.length
        · rw [if_neg h1, if_pos h2, if_neg (by omega)]
        · rw [if_neg h1, if_neg h2, if_pos (by omega), if_pos (by omega), if_pos (by omega)]; rfl
    · rw [if_neg h, if_neg h]
      by_cases h1 : t.f2 < 0
      · rw [if_pos h1]
      · rw [if_neg h1, if_pos (by simp; omega)]
  · rw [if_neg h0, if_neg h0]
theorem cmp_of (op : Int) (a b : Bool × Int) : value_Compare.v op a.1 a.2 b.1 b.2 = 0 ∨ value_Compare.v op a.1 a.2 b.1 b.2 = 1 ∨ value_Compare.v op a.1 a.2 b.1 b.2 = 2 := by
  unfold value_Compare.v value_Compare.tab
  repeat' split
  all_goals omega

def ofF (k : Nat) (p : SP) (r : List (List SV)) := pred_Of.f k p.f0 p.f1 p.f2 p.f3.f0 p.f3.f1 p.f3.f2 p.f3.f3.f0 p.f3.f3.f1 p.f4.f0 p.f4.f1 p.f4.f2 p.f4.f3.f0 p.f4.f3.f1 p.f5 r
def Three (v : Int) : Prop := v = 0 ∨ v = 1 ∨ v = 2
theorem parts_loop {r : List (List SV)} {l : List SP} {vs : List Int} {K : Nat} (hlen : l.length ≤ 1099511627744) (ht : vs.length = l.length) (hT : ∀ k, K ≤ k → ∀ i (h : i < l.length), ofF k l[i] r = some (vs[i]'(by omega))) :
    ∀ (d i k : Nat), i ≤ l.length → l.length - i = d → K + d < k → pred_Of_1.l0 k (vs.take i) l (l.length : Int) (i : Int) r = some vs := by
  intro d
  induction d with
  | zero =>
    intro i k hi hd hk
    obtain ⟨k, rfl⟩ : ∃ m, k = m + 1 := ⟨k - 1, by omega⟩
    rw [pred_Of_1.l0, if_neg (by omega), List.take_of_length_le (by omega)]
  | succ d ih =>
    intro i k hi hd hk
    obtain ⟨k, rfl⟩ : ∃ m, k = m + 1 := ⟨k - 1, by omega⟩
    have hlt : i < l.length := by omega
    have e := hT k (by omega) i hlt
    unfold ofF at e
    rw [pred_Of_1.l0, if_pos (by omega), if_pos (by omega), if_pos (by omega), rdP hlt, e, Option.bind_some, if_pos (by rw [List.length_take]; omega), wrap_succ (by omega), List.take_append_getElem (by omega)]
    exact ih (i + 1) k (by omega) (by omega) (by omega)

/-- The rows are null where n says so. -/
def Nul (n : Nat) (r : List (List SV)) : Prop := ∀ t c, hasB n t = true → (cell r t c).1 = true
theorem null_of {n : Nat} {r : List (List SV)} (hN : Nul n r) {t : ST} (h : nullB t n = true) : (tof t r).1 = true := by
  unfold nullB at h
  unfold tof
  by_cases h0 : t.f0 = 1
  · rw [if_pos h0] at h ⊢; exact hN _ _ h
  · rw [if_neg h0] at h ⊢; exact h
theorem const_of {r : List (List SV)} {t : ST} (h0 : ¬ t.f0 = 1) : tof t r = (t.f3.f0, t.f3.f1) := by unfold tof; rw [if_neg h0]
theorem tv_trip {v : Int} (h : Three v) : tv (trip v) v = true := by
  rcases h with rfl | rfl | rfl <;> rfl
theorem tv_all (v : Int) : tv (true, true, true) v = true := by
  unfold tv
  split
  · rfl
  · split <;> rfl
def mn (a b : Int) : Int := if a ≤ b then a else b
def mx (a b : Int) : Int := if a ≤ b then b else a
theorem three_mn {a b : Int} (ha : Three a) (hb : Three b) : Three (mn a b) := by unfold mn; split <;> assumption
theorem three_mx {a b : Int} (ha : Three a) (hb : Three b) : Three (mx a b) := by unfold mx; split <;> assumption
theorem tv_and {o x : T3} {a v : Int} (ha : Three a) (hv : Three v) : tv o a = true → tv x v = true → tv (andV o x) (mn a v) = true := by
  obtain ⟨a0, a1, a2⟩ := o
  obtain ⟨x0, x1, x2⟩ := x
  rcases ha with rfl | rfl | rfl <;> rcases hv with rfl | rfl | rfl <;> revert a0 a1 a2 x0 x1 x2 <;> decide +kernel
theorem tv_or {o x : T3} {a v : Int} (ha : Three a) (hv : Three v) : tv o a = true → tv x v = true → tv (orV o x) (mx a v) = true := by
  obtain ⟨a0, a1, a2⟩ := o
  obtain ⟨x0, x1, x2⟩ := x
  rcases ha with rfl | rfl | rfl <;> rcases hv with rfl | rfl | rfl <;> revert a0 a1 a2 x0 x1 x2 <;> decide +kernel
theorem tv_not {x : T3} {v : Int} (hv : Three v) : tv x v = true → tv (x.2.2, x.2.1, x.1) (2 - v) = true := by
  obtain ⟨x0, x1, x2⟩ := x
  rcases hv with rfl | rfl | rfl <;> revert x0 x1 x2 <;> decide +kernel
theorem hasL_cons (v : Int) (l : List Int) (y : Int) : hasL (v :: l) y = ((clamp v == y) || hasL l y) := by simp [hasL]
theorem and_fold : ∀ (vs : List Int) (a : Int), (∀ v ∈ vs, Three v) → Three a → vs.foldl mn a = (if (a == 0 || hasL vs 0) = true then 0 else if (a == 1 || hasL vs 1) = true then 1 else 2)
  | [], a, _, ha => by rcases ha with rfl | rfl | rfl <;> rfl
  | v :: vs, a, h, ha => by
    have hv := h v (by simp)
    rw [List.foldl_cons, and_fold vs _ (fun u hu => h u (by simp [hu])) (three_mn ha hv), hasL_cons, hasL_cons, clamp_is hv]
    generalize hasL vs 0 = q0
    generalize hasL vs 1 = q1
    rcases ha with rfl | rfl | rfl <;> rcases hv with rfl | rfl | rfl <;> cases q0 <;> cases q1 <;> rfl
theorem or_fold : ∀ (vs : List Int) (a : Int), (∀ v ∈ vs, Three v) → Three a → vs.foldl mx a = (if (a == 2 || hasL vs 2) = true then 2 else if (a == 1 || hasL vs 1) = true then 1 else 0)
  | [], a, _, ha => by rcases ha with rfl | rfl | rfl <;> rfl
  | v :: vs, a, h, ha => by
    have hv := h v (by simp)
    rw [List.foldl_cons, or_fold vs _ (fun u hu => h u (by simp [hu])) (three_mx ha hv), hasL_cons, hasL_cons, clamp_is hv]
    generalize hasL vs 2 = q0
    generalize hasL vs 1 = q1
    rcases ha with rfl | rfl | rfl <;> rcases hv with rfl | rfl | rfl <;> cases q0 <;> cases q1 <;> rfl
theorem andL_fold {vs : List Int} (h : ∀ v ∈ vs, Three v) : andL vs = vs.foldl mn 2 := by
  rw [and_fold vs 2 h (.inr (.inr rfl))]
  unfold andL
  generalize hasL vs 0 = q0
  generalize hasL vs 1 = q1
  cases q0 <;> cases q1 <;> rfl
theorem orL_fold {vs : List Int} (h : ∀ v ∈ vs, Three v) : orL vs = vs.foldl mx 0 := by
  rw [or_fold vs 0 h (.inl rfl)]
  unfold orL
  generalize hasL vs 2 = q0
  generalize hasL vs 1 = q1
  cases q0 <;> cases q1 <;> rfl
/-- Each value is among its part's truths. -/
inductive Fit (T : SP → T3) : List SP → List Int → Prop
  | nil : Fit T [] []
  | cons {x : SP} {l : List SP} {v : Int} {vs : List Int} : tv (T x) v = true → Fit T l vs → Fit T (x :: l) (v :: vs)
theorem fit_and {T : SP → T3} : ∀ {l : List SP} {vs : List Int}, Fit T l vs → (∀ v ∈ vs, Three v) → ∀ (o : T3) (a : Int), Three a → tv o a = true → tv (l.foldl (fun o x => andV o (T x)) o) (vs.foldl mn a) = true
  | _, _, .nil, _, o, a, _, h => h
  | _, _, .cons h1 h2, h3, o, a, ha, h => fit_and h2 (fun u hu => h3 u (by simp [hu])) _ _ (three_mn ha (h3 _ (by simp))) (tv_and ha (h3 _ (by simp)) h h1)
theorem fit_or {T : SP → T3} : ∀ {l : List SP} {vs : List Int}, Fit T l vs → (∀ v ∈ vs, Three v) → ∀ (o : T3) (a : Int), Three a → tv o a = true → tv (l.foldl (fun o x => orV o (T x)) o) (vs.foldl mx a) = true
  | _, _, .nil, _, o, a, _, h => h
  | _, _, .cons h1 h2, h3, o, a, ha, h => fit_or h2 (fun u hu => h3 u (by simp [hu])) _ _ (three_mx ha (h3 _ (by simp))) (tv_or ha (h3 _ (by simp)) h h1)
theorem list_fit {T : SP → T3} {r : List (List SV)} : ∀ (l : List SP), (∀ x ∈ l, ∃ v, Three v ∧ tv (T x) v = true ∧ ∃ K, ∀ k, K ≤ k → ofF k x r = some v) → ∃ (vs : List Int) (K : Nat), ∃ (ht : vs.length = l.length), (∀ v ∈ vs, Three v) ∧ Fit T l vs ∧ ∀ k, K ≤ k → ∀ i (h : i < l.length), ofF k l[i] r = some (vs[i]'(by omega))
  | [], _ => ⟨[], 0, rfl, by simp, .nil, fun k _ i h => absurd h (by simp)⟩
  | x :: l, h => by
    obtain ⟨v, h3, h5, K1, h1⟩ := h x (by simp)
    obtain ⟨vs, K2, ht, h4, h6, h2⟩ := list_fit l (fun y hy => h y (by simp [hy]))
    refine ⟨v :: vs, K1 + K2, by simp [ht], fun u hu => ?_, .cons h5 h6, fun k hk i hi => ?_⟩
    · rcases List.mem_cons.1 hu with rfl | hu
      · exact h3
      · exact h4 u hu
    · cases i with
      | zero => exact h1 k (by omega)
      | succ i => exact h2 k (by omega) i (by simpa using hi)
theorem fit_at {T : SP → T3} : ∀ {l : List SP} {vs : List Int}, Fit T l vs → ∀ (i : Nat) (h : i < l.length) (h2 : i < vs.length), tv (T l[i]) vs[i] = true
  | _, _, .cons h1 h2, 0, _, _ => h1
  | _, _, .cons h1 h2, i + 1, h, h3 => fit_at h2 i (by simpa using h) (by simpa using h3)
theorem of_may {n : Nat} {r : List (List SV)} (hN : Nul n r) : ∀ (m : Nat) (p : SP), Bn m p → ∃ v, Three v ∧ tv (mayV n m p) v = true ∧ ∃ K, ∀ k, K ≤ k → ofF k p r = some v := by
  intro m
  induction m with
  | zero => intro p h; exact h.elim
  | succ m ih =>
    intro p hp
    have hlen : p.f5.length ≤ 1099511627744 := by
      obtain ⟨_, _, _, _, _, h1, h3, h2⟩ := hp
      omega
    have hx := (bn_succ hp).2
    obtain ⟨vs, K, ht, h3, hF, hT⟩ := list_fit (T := mayV n m) (r := r) p.f5 (fun x hx' => ih x (hx x hx'))
    have pr : ∀ k, K + p.f5.length < k → pred_Of_1.f (k + 1) p.f0 p.f1 p.f2 p.f3.f0 p.f3.f1 p.f3.f2 p.f3.f3.f0 p.f3.f3.f1 p.f4.f0 p.f4.f1 p.f4.f2 p.f4.f3.f0 p.f4.f3.f1 p.f5 r = some vs := by
      intro k hk
      have := parts_loop hlen ht hT p.f5.length 0 k (by omega) (by omega) (by omega)
      rw [pred_Of_1.f]; simpa using this
    by_cases k1 : p.f0 = 1
    · have hv : andL [p.f1] = clamp p.f1 := by
        unfold andL
        rw [hasL_cons, hasL_cons]
        have hcl := clamp_of p.f1
        rcases hcl with h | h | h <;> rw [h] <;> rfl
      refine ⟨andL [p.f1], andL_of _, by rw [mayV, if_pos k1, hv]; exact tv_trip (clamp_of _), 10, fun k hk => ?_⟩
      obtain ⟨k, rfl⟩ : ∃ m, k = m + 1 := ⟨k - 1, by omega⟩
      unfold ofF
      simp only [pred_Of.f]
      simp only [if_pos k1, and_f [p.f1] (by simp) (show ([p.f1] : List Int).length < k by simp; omega), Option.bind_some]
    by_cases k2 : p.f0 = 2
    · have hc := cmp_of p.f2 (tof p.f3 r) (tof p.f4 r)
      refine ⟨value_Compare.v p.f2 (tof p.f3 r).1 (tof p.f3 r).2 (tof p.f4 r).1 (tof p.f4 r).2, hc, ?_, 10, fun k hk => ?_⟩
      · rw [mayV, if_neg k1, if_pos k2]
        have one : (p.f2 < 1 ∨ p.f2 > 6 ∨ (tof p.f3 r).1 = true ∨ (tof p.f4 r).1 = true) → value_Compare.v p.f2 (tof p.f3 r).1 (tof p.f3 r).2 (tof p.f4 r).1 (tof p.f4 r).2 = 1 := by
          intro h
          unfold value_Compare.v
          rw [if_pos h]
        unfold cmpV
        by_cases o1 : p.f2 < 1
        · rw [if_pos o1, one (.inl o1)]; rfl
        by_cases o2 : p.f2 > 6
        · rw [if_neg o1, if_pos o2, one (.inr (.inl o2))]; rfl
        rw [if_neg o1, if_neg o2]
        by_cases c1 : nullB p.f3 n = true
        · rw [if_pos c1, one (.inr (.inr (.inl (null_of hN c1))))]; rfl
        rw [if_neg c1]
        by_cases c2 : nullB p.f4 n = true
        · rw [if_pos c2, one (.inr (.inr (.inr (null_of hN c2))))]; rfl
        rw [if_neg c2]
        by_cases c3 : p.f3.f0 = 1
        · rw [if_pos c3]; exact tv_all _
        rw [if_neg c3]
        by_cases c4 : p.f4.f0 = 1
        · rw [if_pos c4]; exact tv_all _
        rw [if_neg c4]
        rw [const_of c3, const_of c4] at hc ⊢
        rw [clamp_is hc]
        exact tv_trip hc
      · obtain ⟨k, rfl⟩ : ∃ m, k = m + 1 := ⟨k - 1, by omega⟩
        unfold ofF
        simp only [pred_Of.f]
        simp only [if_neg k1, if_pos k2, tof_f, Option.bind_some, value_Compare.f]
    by_cases k3 : p.f0 = 3
    · refine ⟨if (tof p.f3 r).1 = true then 2 else 0, by unfold Three; split <;> omega, ?_, 10, fun k hk => ?_⟩
      · rw [mayV, if_neg k1, if_neg k2, if_pos k3]
        by_cases c1 : nullB p.f3 n = true
        · rw [if_pos c1, if_pos (null_of hN c1)]; rfl
        · rw [if_neg c1]
          by_cases c2 : (tof p.f3 r).1 = true
          · rw [if_pos c2]
            have c3 : p.f3.f0 = 1 := by
              by_cases c3 : p.f3.f0 = 1
              · exact c3
              · rw [const_of c3] at c2
                unfold nullB at c1
                rw [if_neg c3] at c1
                exact absurd c2 c1
            rw [c3]; rfl
          · rw [if_neg c2]; rfl
      · obtain ⟨k, rfl⟩ : ∃ m, k = m + 1 := ⟨k - 1, by omega⟩
        unfold ofF
        simp only [pred_Of.f]
        simp only [if_neg k1, if_neg k2, if_pos k3, tof_f, Option.bind_some, logic_Of.f]
        cases (tof p.f3 r).1 <;> rfl
    by_cases k4 : p.f0 = 4
    · refine ⟨andL vs, andL_of _, ?_, K + p.f5.length + 10, fun k hk => ?_⟩
      · rw [mayV, if_neg k1, if_neg k2, if_neg k3, if_pos k4, andL_fold h3]
        exact fit_and hF h3 _ _ (.inr (.inr rfl)) rfl
      · obtain ⟨k, rfl⟩ : ∃ m, k = m + 2 := ⟨k - 2, by omega⟩
        unfold ofF
        simp only [pred_Of.f.eq_2]
        simp only [if_neg k1, if_neg k2, if_neg k3, if_pos k4, pr k (by omega), and_f vs (by omega) (show vs.length < k + 1 by omega), Option.bind_some]
    by_cases k5 : p.f0 = 5
    · refine ⟨orL vs, orL_of _, ?_, K + p.f5.length + 10, fun k hk => ?_⟩
      · rw [mayV, if_neg k1, if_neg k2, if_neg k3, if_neg k4, if_pos k5, orL_fold h3]
        exact fit_or hF h3 _ _ (.inl rfl) rfl
      · obtain ⟨k, rfl⟩ : ∃ m, k = m + 2 := ⟨k - 2, by omega⟩
        unfold ofF
        simp only [pred_Of.f.eq_2]
        simp only [if_neg k1, if_neg k2, if_neg k3, if_neg k4, if_pos k5, pr k (by omega), or_f vs (by omega) (show vs.length < k + 1 by omega), Option.bind_some]
    by_cases k6 : p.f0 = 6
    · by_cases hz : (p.f5.length : Int) > 0
      · have hlt : 0 < p.f5.length := by omega
        have hv := h3 (vs[0]'(by omega)) (List.getElem_mem _)
        refine ⟨2 - vs[0]'(by omega), by unfold Three at hv ⊢; omega, ?_, K + 10, fun k hk => ?_⟩
        · rw [mayV, if_neg k1, if_neg k2, if_neg k3, if_neg k4, if_neg k5, if_pos k6, notV_pos (mayV n m) p.f5 hlt]
          exact tv_not hv (fit_at hF 0 hlt (by omega))
        · obtain ⟨k, rfl⟩ : ∃ m, k = m + 1 := ⟨k - 1, by omega⟩
          have e1 := hT k (by omega) 0 hlt
          unfold ofF at e1
          have r0 := rdP hlt
          rw [Int.natCast_zero] at r0
          unfold ofF
          rw [pred_Of.f, if_neg k1, if_neg k2, if_neg k3, if_neg k4, if_neg k5, if_pos k6, if_pos hz, if_pos (by omega), r0, e1, Option.bind_some, not_f hv]; rfl
      · have hq : p.f5 = [] := List.length_eq_zero_iff.1 (by omega)
        refine ⟨1, .inr (.inl rfl), by rw [mayV, if_neg k1, if_neg k2, if_neg k3, if_neg k4, if_neg k5, if_pos k6, hq]; rfl, 10, fun k hk => ?_⟩
        obtain ⟨k, rfl⟩ : ∃ m, k = m + 1 := ⟨k - 1, by omega⟩
        unfold ofF
        rw [pred_Of.f, if_neg k1, if_neg k2, if_neg k3, if_neg k4, if_neg k5, if_pos k6, if_neg hz]
    · refine ⟨1, .inr (.inl rfl), by rw [mayV, if_neg k1, if_neg k2, if_neg k3, if_neg k4, if_neg k5, if_neg k6]; rfl, 10, fun k hk => ?_⟩
      obtain ⟨k, rfl⟩ : ∃ m, k = m + 1 := ⟨k - 1, by omega⟩
      unfold ofF
      rw [pred_Of.f, if_neg k1, if_neg k2, if_neg k3, if_neg k4, if_neg k5, if_neg k6]
/-- All together: what it is, and that it is among the truths. -/
theorem all_may {n : Nat} {r : List (List SV)} (hN : Nul n r) {m : Nat} {l : List SP} (hlen : l.length ≤ 1099511627744) (h : ∀ x ∈ l, Bn m x) : ∃ v, tv (allV n m l) v = true ∧ Three v ∧ ∃ K, ∀ k, K ≤ k → pred_All.f k l r = some v := by
  obtain ⟨vs, K, ht, h3, hF, hT⟩ := list_fit (T := mayV n m) (r := r) l (fun x hx' => of_may hN m x (h x hx'))
  refine ⟨andL vs, by rw [andL_fold h3]; exact fit_and hF h3 _ _ (.inr (.inr rfl)) rfl, andL_of _, K + l.length + 10, fun k hk => ?_⟩
  obtain ⟨k, rfl⟩ : ∃ m, k = m + 2 := ⟨k - 2, by omega⟩
  have pr : pred_Of_1.f (k + 1) 4 0 0 0 0 0 false 0 0 0 0 false 0 l r = some vs := by
    have := parts_loop hlen ht hT l.length 0 k (by omega) (by omega) (by omega)
    rw [pred_Of_1.f]; simpa using this
  unfold pred_All.f
  rw [pred_Of.f.eq_2, if_neg (by omega), if_neg (by omega), if_neg (by omega), if_pos rfl, pr, Option.bind_some, and_f vs (by omega) (show vs.length < k + 1 by omega), Option.bind_some]; rfl
end Go.Proofs.Ytigkkfhpnfjmhaa.OfMayRejM
