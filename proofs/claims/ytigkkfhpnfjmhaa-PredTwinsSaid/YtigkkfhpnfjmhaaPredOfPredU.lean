/- What pred.Of comes to: one of the three truths, and the same of two lists of rows that agree on the predicate's terms. -/
import Derived.Test.YtigkkfhpnfjmhaaPPredUx3
import Derived.Test.YtigkkfhpnfjmhaaPPredUx2
import Derived.Test.YtigkkfhpnfjmhaaPPredUx4
import Derived.Test.YtigkkfhpnfjmhaaPPredUx8
import Derived.Test.YtigkkfhpnfjmhaaStep
namespace Go.Proofs.Ytigkkfhpnfjmhaa.PredOfPredU
open Go.RowKit Go.Proofs.Ytigkkfhpnfjmhaa.PPredU Go.Proofs.YtigkkfhpnfjmhaaW.PrintWords Go.Proofs.YtigkkfhpnfjmhaaW.PrintLast Go.Proofs.YtigkkfhpnfjmhaaW.PrintMore Go.Proofs.Ytigkkfhpnfjmhaa.Bits Go.Proofs.Ytigkkfhpnfjmhaa.Opens
set_option linter.unusedVariables false
set_option linter.unusedSimpArgs false

abbrev SP := S46
abbrev ST := S44
abbrev SV := S42
def clamp (x : Int) : Int := if 0 ≤ x ∧ x ≤ 2 then x else 1
theorem clamp_of (x : Int) : clamp x = 0 ∨ clamp x = 1 ∨ clamp x = 2 := by unfold clamp; split <;> omega
theorem clamp_is {x : Int} (h : x = 0 ∨ x = 1 ∨ x = 2) : clamp x = x := by unfold clamp; rw [if_pos (by omega)]
theorem of_clamp (x : Int) : logic_of.f x = some (clamp x) := by
  unfold logic_of.f logic_Right.f clamp
  by_cases h1 : x ≥ 0
  · rw [if_pos h1, Option.bind_some]
    by_cases h2 : x ≤ 2
    · simp [h1, h2]
    · simp [h1, h2]
  · rw [if_neg h1, Option.bind_some]; simp [h1]
def hasL (l : List Int) (y : Int) : Bool := l.any (fun x => clamp x == y)
theorem rdI {l : List Int} {i : Nat} (h : i < l.length) : rd l (i : Int) = l[i] := by simp [rd, h]
theorem index_loop (l : List Int) (y : Int) (hl : l.length ≤ 9223372036854775807) : ∀ (d i k : Nat), i ≤ l.length → l.length - i = d → d < k →
    ∃ r, slices_IndexFunc_int_int_at_logic_first_1_1.l0 k l (l.length : Int) (i : Int) y = some r ∧ decide (r ≥ 0) = hasL (l.drop i) y := by
  intro d
  induction d with
  | zero =>
    intro i k hi hd hk
    obtain ⟨k, rfl⟩ : ∃ m, k = m + 1 := ⟨k - 1, by omega⟩
    refine ⟨-1, by rw [slices_IndexFunc_int_int_at_logic_first_1_1.l0, if_neg (by omega)], ?_⟩
    rw [List.drop_of_length_le (by omega)]; rfl
  | succ d ih =>
    intro i k hi hd hk
    obtain ⟨k, rfl⟩ : ∃ m, k = m + 1 := ⟨k - 1, by omega⟩
    have hlt : i < l.length := by omega
    rw [slices_IndexFunc_int_int_at_logic_first_1_1.l0, if_pos (by omega), if_pos (by omega), if_pos (by omega), rdI hlt]
    unfold logic_first_1_1.f
    rw [of_clamp, Option.bind_some, Option.bind_some, List.drop_eq_getElem_cons hlt]
    by_cases h : clamp l[i] = y
    · rw [if_pos (by simpa using h)]
      refine ⟨_, rfl, ?_⟩
      simp only [hasL, List.any_cons]
      simp [h]
    · rw [if_neg (by simpa using h), wrap_succ (by omega)]
      obtain ⟨r, h1, h2⟩ := ih (i + 1) k (by omega) (by omega) (by omega)
      refine ⟨r, h1, ?_⟩
      rw [h2]
      simp only [hasL, List.any_cons]
      simp [h]
theorem has_f (l : List Int) (y : Int) (hl : l.length ≤ 9223372036854775807) {k : Nat} (hk : l.length < k) : logic_first_1.f k y l = some (hasL l y) := by
  obtain ⟨r, h1, h2⟩ := index_loop l y hl l.length 0 k (by omega) (by omega) hk
  rw [Int.natCast_zero] at h1
  rw [List.drop_zero] at h2
  unfold logic_first_1.f slices_ContainsFunc_int_int_at_logic_first_1_1.f slices_IndexFunc_int_int_at_logic_first_1_1.f
  rw [h1, Option.bind_some, Option.bind_some, h2]
def andL (l : List Int) : Int := if hasL l 0 = true then 0 else if hasL l 1 = true then 1 else 2
def orL (l : List Int) : Int := if hasL l 2 = true then 2 else if hasL l 1 = true then 1 else 0
theorem andL_of (l : List Int) : andL l = 0 ∨ andL l = 1 ∨ andL l = 2 := by unfold andL; repeat' split <;> omega
theorem orL_of (l : List Int) : orL l = 0 ∨ orL l = 1 ∨ orL l = 2 := by unfold orL; repeat' split <;> omega
theorem and_f (l : List Int) (hl : l.length ≤ 9223372036854775807) {k : Nat} (hk : l.length < k) : logic_And.f k l = some (andL l) := by
  unfold logic_And.f logic_first.f andL
  rw [has_f l 0 hl hk, Option.bind_some]
  by_cases h : hasL l 0 = true
  · rw [if_pos h, if_pos h]; rfl
  · rw [if_neg h, if_neg h, has_f l 1 hl hk, Option.bind_some]
    by_cases h2 : hasL l 1 = true
    · rw [if_pos h2, if_pos h2]; rfl
    · rw [if_neg h2, if_neg h2]; rfl
theorem or_f (l : List Int) (hl : l.length ≤ 9223372036854775807) {k : Nat} (hk : l.length < k) : logic_Or.f k l = some (orL l) := by
  unfold logic_Or.f logic_first.f orL
  rw [has_f l 2 hl hk, Option.bind_some]
  by_cases h : hasL l 2 = true
  · rw [if_pos h, if_pos h]; rfl
  · rw [if_neg h, if_neg h, has_f l 1 hl hk, Option.bind_some]
    by_cases h2 : hasL l 1 = true
    · rw [if_pos h2, if_pos h2]; rfl
    · rw [if_neg h2, if_neg h2]; rfl
theorem not_f {x : Int} (h : x = 0 ∨ x = 1 ∨ x = 2) : logic_Not.f x = some (2 - x) := by
  unfold logic_Not.f
  rw [of_clamp, clamp_is h, Option.bind_some]
  rcases h with rfl | rfl | rfl <;> decide +kernel

/-- The value at a table's column: null where there is none; what a term is. -/
def cell (l : List (List SV)) (t c : Int) : Bool × Int :=
  if 0 ≤ t ∧ t < l.length then
    if 0 ≤ c ∧ c < ((l.getD t.toNat []).length : Int) then (((l.getD t.toNat []).getD c.toNat z42).f0, ((l.getD t.toNat []).getD c.toNat z42).f1) else (true, 0)
  else (true, 0)
def tof (t : ST) (l : List (List SV)) : Bool × Int := if t.f0 = 1 then cell l t.f1 t.f2 else (t.f3.f0, t.f3.f1)
theorem row_f (l : List (List SV)) (t : Int) : term_row.f l t = some (if 0 ≤ t ∧ t < l.length then l.getD t.toNat [] else []) := by
  unfold term_row.f
  by_cases h : t < 0
  · rw [if_pos h, if_neg (by omega)]
  · by_cases h2 : t ≥ l.length
    · rw [if_neg h, if_pos h2, if_neg (by omega)]
    · rw [if_neg h, if_neg h2, if_pos (by omega), if_pos (by omega), if_pos (by omega)]; rfl
theorem tof_f (t : ST) (l : List (List SV)) : term_Of.f t.f0 t.f1 t.f2 t.f3.f0 t.f3.f1 l = some (tof t l) := by
  unfold term_Of.f tof
  by_cases h0 : t.f0 = 1
  · rw [if_pos h0, if_pos h0, row_f, Option.bind_some]
    unfold cell
    by_cases h : 0 ≤ t.f1 ∧ t.f1 < l.length
    · rw [if_pos h, if_pos h]
      generalize l.getD t.f1.toNat [] = r
      by_cases h1 : t.f2 < 0
      · rw [if_pos h1, if_neg (by omega)]
      · by_cases h2 : t.f2 ≥ r.length
        · rw [if_neg h1, if_pos h2, if_neg (by omega)]
        · rw [if_neg h1, if_neg h2, if_pos (by omega), if_pos (by omega), if_pos (by omega)]; rfl
    · rw [if_neg h, if_neg h]
      by_cases h1 : t.f2 < 0
      · rw [if_pos h1]
      · rw [if_neg h1, if_pos (by simp; omega)]
  · rw [if_neg h0, if_neg h0]
theorem cmp_of (op : Int) (a b : Bool × Int) : value_Compare.v op a.1 a.2 b.1 b.2 = 0 ∨ value_Compare.v op a.1 a.2 b.1 b.2 = 1 ∨ value_Compare.v op a.1 a.2 b.1 b.2 = 2 := by
  unfold value_Compare.v value_Compare.tab
  repeat' split
  all_goals omega

/-- Within bounds, so deep. -/
abbrev Bn (m : Nat) (p : SP) : Prop := bn46 m p
theorem bn_succ {m : Nat} {p : SP} (h : Bn (m + 1) p) : p.f5.length ≤ 1099511627744 ∧ ∀ x ∈ p.f5, Bn m x := by
  obtain ⟨_, _, _, _, _, h1, h3, h2⟩ := h
  exact ⟨by omega, h2⟩
theorem bn_mono : ∀ {m : Nat} {p : SP}, Bn m p → Bn (m + 1) p
  | 0, p, h => h.elim
  | m + 1, p, h => by
    obtain ⟨a0, a1, a2, a3, a4, h1, h3, h2⟩ := h
    exact ⟨a0, a1, a2, a3, a4, h1, h3, fun x hx => bn_mono (h2 x hx)⟩
theorem bn_le {m m' : Nat} {p : SP} (h : Bn m p) (hm : m ≤ m') : Bn m' p := by
  induction hm with
  | refl => exact h
  | step _ ih => exact bn_mono ih
/-- Two lists of rows that agree on all terms, so deep. -/
def Agree (r s : List (List SV)) : Nat → SP → Prop
  | 0, _ => True
  | m + 1, p => tof p.f3 r = tof p.f3 s ∧ tof p.f4 r = tof p.f4 s ∧ ∀ x ∈ p.f5, Agree r s m x
theorem agree_refl (r : List (List SV)) : ∀ m p, Agree r r m p
  | 0, _ => trivial
  | m + 1, p => ⟨rfl, rfl, fun x _ => agree_refl r m x⟩
def ofF (k : Nat) (p : SP) (r : List (List SV)) := pred_Of.f k p.f0 p.f1 p.f2 p.f3.f0 p.f3.f1 p.f3.f2 p.f3.f3.f0 p.f3.f3.f1 p.f4.f0 p.f4.f1 p.f4.f2 p.f4.f3.f0 p.f4.f3.f1 p.f5 r
def Three (v : Int) : Prop := v = 0 ∨ v = 1 ∨ v = 2
def Tell (k : Nat) (r s : List (List SV)) (p : SP) (v : Int) : Prop := ofF k p r = some v ∧ ofF k p s = some v
theorem rdP {l : List SP} {i : Nat} (h : i < l.length) : rd_T46 l (i : Int) = l[i] := by simp [rd_T46, h]
theorem list_tell {r s : List (List SV)} : ∀ (l : List SP), (∀ x ∈ l, ∃ v, Three v ∧ ∃ K, ∀ k, K ≤ k → Tell k r s x v) → ∃ (vs : List Int) (K : Nat), ∃ (ht : vs.length = l.length), (∀ v ∈ vs, Three v) ∧ ∀ k, K ≤ k → ∀ i (h : i < l.length), Tell k r s l[i] (vs[i]'(by omega))
  | [], _ => ⟨[], 0, rfl, by simp, fun k _ i h => absurd h (by simp)⟩
  | x :: l, h => by
    obtain ⟨v, h3, K1, h1⟩ := h x (by simp)
    obtain ⟨vs, K2, ht, h4, h2⟩ := list_tell l (fun y hy => h y (by simp [hy]))
    refine ⟨v :: vs, K1 + K2, by simp [ht], fun u hu => ?_, fun k hk i hi => ?_⟩
    · rcases List.mem_cons.1 hu with rfl | hu
      · exact h3
      · exact h4 u hu
    · cases i with
      | zero => exact h1 k (by omega)
      | succ i => exact h2 k (by omega) i (by simpa using hi)
theorem parts_loop {r : List (List SV)} {l : List SP} {vs : List Int} {K : Nat} (hlen : l.length ≤ 1099511627744) (ht : vs.length = l.length) (hT : ∀ k, K ≤ k → ∀ i (h : i < l.length), ofF k l[i] r = some (vs[i]'(by omega))) :
    ∀ (d i k : Nat), i ≤ l.length → l.length - i = d → K + d < k → pred_Of_1.l0 k (vs.take i) l (l.length : Int) (i : Int) r = some vs := by
  intro d
  induction d with
  | zero =>
    intro i k hi hd hk
    obtain ⟨k, rfl⟩ : ∃ m, k = m + 1 := ⟨k - 1, by omega⟩
    rw [pred_Of_1.l0, if_neg (by omega), List.take_of_length_le (by omega)]
  | succ d ih =>
    intro i k hi hd hk
    obtain ⟨k, rfl⟩ : ∃ m, k = m + 1 := ⟨k - 1, by omega⟩
    have hlt : i < l.length := by omega
    have e := hT k (by omega) i hlt
    unfold ofF at e
    rw [pred_Of_1.l0, if_pos (by omega), if_pos (by omega), if_pos (by omega), rdP hlt, e, Option.bind_some, if_pos (by rw [List.length_take]; omega), wrap_succ (by omega), List.take_append_getElem (by omega)]
    exact ih (i + 1) k (by omega) (by omega) (by omega)
theorem of_two {r s : List (List SV)} : ∀ (m : Nat) (p : SP), Bn m p → Agree r s m p → ∃ v, Three v ∧ ∃ K, ∀ k, K ≤ k → Tell k r s p v := by
  intro m
  induction m with
  | zero => intro p h; exact h.elim
  | succ m ih =>
    intro p hp ha
    obtain ⟨hlen, hx⟩ := bn_succ hp
    obtain ⟨a1, a2, a3⟩ := ha
    obtain ⟨vs, K, ht, h3, hT⟩ := list_tell (r := r) (s := s) p.f5 (fun x hx' => ih x (hx x hx') (a3 x hx'))
    have fr : ∀ k, K ≤ k → ∀ i (h : i < p.f5.length), ofF k p.f5[i] r = some (vs[i]'(by omega)) := fun k hk i h => (hT k hk i h).1
    have fs : ∀ k, K ≤ k → ∀ i (h : i < p.f5.length), ofF k p.f5[i] s = some (vs[i]'(by omega)) := fun k hk i h => (hT k hk i h).2
    have pr : ∀ k, K + p.f5.length < k → pred_Of_1.f (k + 1) p.f0 p.f1 p.f2 p.f3.f0 p.f3.f1 p.f3.f2 p.f3.f3.f0 p.f3.f3.f1 p.f4.f0 p.f4.f1 p.f4.f2 p.f4.f3.f0 p.f4.f3.f1 p.f5 r = some vs := by
      intro k hk
      have := parts_loop hlen ht fr p.f5.length 0 k (by omega) (by omega) (by omega)
      rw [pred_Of_1.f]; simpa using this
    have ps : ∀ k, K + p.f5.length < k → pred_Of_1.f (k + 1) p.f0 p.f1 p.f2 p.f3.f0 p.f3.f1 p.f3.f2 p.f3.f3.f0 p.f3.f3.f1 p.f4.f0 p.f4.f1 p.f4.f2 p.f4.f3.f0 p.f4.f3.f1 p.f5 s = some vs := by
      intro k hk
      have := parts_loop hlen ht fs p.f5.length 0 k (by omega) (by omega) (by omega)
      rw [pred_Of_1.f]; simpa using this
    by_cases k1 : p.f0 = 1
    · refine ⟨andL [p.f1], andL_of _, 10, fun k hk => ?_⟩
      obtain ⟨k, rfl⟩ : ∃ m, k = m + 1 := ⟨k - 1, by omega⟩
      unfold Tell ofF
      simp only [pred_Of.f]
      simp only [if_pos k1, and_f [p.f1] (by simp) (show ([p.f1] : List Int).length < k by simp; omega), Option.bind_some]
      first | exact ⟨rfl, rfl⟩ | exact ⟨trivial, trivial⟩
    by_cases k2 : p.f0 = 2
    · refine ⟨value_Compare.v p.f2 (tof p.f3 r).1 (tof p.f3 r).2 (tof p.f4 r).1 (tof p.f4 r).2, cmp_of _ _ _, 10, fun k hk => ?_⟩
      obtain ⟨k, rfl⟩ : ∃ m, k = m + 1 := ⟨k - 1, by omega⟩
      unfold Tell ofF
      simp only [pred_Of.f]
      simp only [if_neg k1, if_pos k2, tof_f, Option.bind_some, ← a1, ← a2, value_Compare.f]
      first | exact ⟨rfl, rfl⟩ | exact ⟨trivial, trivial⟩
    by_cases k3 : p.f0 = 3
    · refine ⟨if (tof p.f3 r).1 = true then 2 else 0, by unfold Three; split <;> omega, 10, fun k hk => ?_⟩
      obtain ⟨k, rfl⟩ : ∃ m, k = m + 1 := ⟨k - 1, by omega⟩
      unfold Tell ofF
      simp only [pred_Of.f]
      simp only [if_neg k1, if_neg k2, if_pos k3, tof_f, Option.bind_some, ← a1, logic_Of.f]
      cases (tof p.f3 r).1 <;> first | exact ⟨rfl, rfl⟩ | exact ⟨trivial, trivial⟩
    by_cases k4 : p.f0 = 4
    · refine ⟨andL vs, andL_of _, K + p.f5.length + 10, fun k hk => ?_⟩
      obtain ⟨k, rfl⟩ : ∃ m, k = m + 2 := ⟨k - 2, by omega⟩
      unfold Tell ofF
      simp only [pred_Of.f.eq_2]
      simp only [if_neg k1, if_neg k2, if_neg k3, if_pos k4, pr k (by omega), ps k (by omega), and_f vs (by omega) (show vs.length < k + 1 by omega), Option.bind_some]
      first | exact ⟨rfl, rfl⟩ | exact ⟨trivial, trivial⟩
    by_cases k5 : p.f0 = 5
    · refine ⟨orL vs, orL_of _, K + p.f5.length + 10, fun k hk => ?_⟩
      obtain ⟨k, rfl⟩ : ∃ m, k = m + 2 := ⟨k - 2, by omega⟩
      unfold Tell ofF
      simp only [pred_Of.f.eq_2]
      simp only [if_neg k1, if_neg k2, if_neg k3, if_neg k4, if_pos k5, pr k (by omega), ps k (by omega), or_f vs (by omega) (show vs.length < k + 1 by omega), Option.bind_some]
      first | exact ⟨rfl, rfl⟩ | exact ⟨trivial, trivial⟩
    by_cases k6 : p.f0 = 6
    · by_cases hz : (p.f5.length : Int) > 0
      · have hlt : 0 < p.f5.length := by omega
        have hv := h3 (vs[0]'(by omega)) (List.getElem_mem _)
        refine ⟨2 - vs[0]'(by omega), by unfold Three at hv ⊢; omega, K + 10, fun k hk => ?_⟩
        obtain ⟨k, rfl⟩ : ∃ m, k = m + 1 := ⟨k - 1, by omega⟩
        obtain ⟨e1, e2⟩ := hT k (by omega) 0 hlt
        unfold ofF at e1 e2
        have r0 := rdP hlt
        rw [Int.natCast_zero] at r0
        unfold Tell ofF
        constructor
        · rw [pred_Of.f, if_neg k1, if_neg k2, if_neg k3, if_neg k4, if_neg k5, if_pos k6, if_pos hz, if_pos (by omega), r0, e1, Option.bind_some, not_f hv]; rfl
        · rw [pred_Of.f, if_neg k1, if_neg k2, if_neg k3, if_neg k4, if_neg k5, if_pos k6, if_pos hz, if_pos (by omega), r0, e2, Option.bind_some, not_f hv]; rfl
      · refine ⟨1, .inr (.inl rfl), 10, fun k hk => ?_⟩
        obtain ⟨k, rfl⟩ : ∃ m, k = m + 1 := ⟨k - 1, by omega⟩
        unfold Tell ofF
        constructor
        · rw [pred_Of.f, if_neg k1, if_neg k2, if_neg k3, if_neg k4, if_neg k5, if_pos k6, if_neg hz]
        · rw [pred_Of.f, if_neg k1, if_neg k2, if_neg k3, if_neg k4, if_neg k5, if_pos k6, if_neg hz]
    · refine ⟨1, .inr (.inl rfl), 10, fun k hk => ?_⟩
      obtain ⟨k, rfl⟩ : ∃ m, k = m + 1 := ⟨k - 1, by omega⟩
      unfold Tell ofF
      constructor
      · rw [pred_Of.f, if_neg k1, if_neg k2, if_neg k3, if_neg k4, if_neg k5, if_neg k6]
      · rw [pred_Of.f, if_neg k1, if_neg k2, if_neg k3, if_neg k4, if_neg k5, if_neg k6]
def sizeF (k : Nat) (p : SP) (most : Int) := watersmeetref06_Size.f k p.f0 p.f1 p.f2 p.f3.f0 p.f3.f1 p.f3.f2 p.f3.f3.f0 p.f3.f3.f1 p.f4.f0 p.f4.f1 p.f4.f2 p.f4.f3.f0 p.f4.f3.f1 p.f5 most
theorem list_size : ∀ (l : List SP), (∀ x ∈ l, ∃ K, ∀ k, K ≤ k → ∀ most, ∃ r, sizeF k x most = some r) → ∃ K, ∀ k, K ≤ k → ∀ i (h : i < l.length), ∀ most, ∃ r, sizeF k l[i] most = some r
  | [], _ => ⟨0, fun k _ i h => absurd h (by simp)⟩
  | x :: l, h => by
    obtain ⟨K1, h1⟩ := h x (by simp)
    obtain ⟨K2, h2⟩ := list_size l (fun y hy => h y (by simp [hy]))
    refine ⟨K1 + K2, fun k hk i hi => ?_⟩
    cases i with
    | zero => exact h1 k (by omega)
    | succ i => exact h2 k (by omega) i (by simpa using hi)
theorem size_some : ∀ (m : Nat) (p : SP), Bn m p → ∃ K, ∀ k, K ≤ k → ∀ most, ∃ r, sizeF k p most = some r := by
  intro m
  induction m with
  | zero => intro p h; exact h.elim
  | succ m ih =>
    intro p hp
    obtain ⟨hlen, hx⟩ := bn_succ hp
    obtain ⟨K, hK⟩ := list_size p.f5 (fun x hx' => ih x (hx x hx'))
    have hloop : ∀ (d i k : Nat) (most a : Int), i ≤ p.f5.length → p.f5.length - i = d → K + d < k → ∃ r, watersmeetref06_Size.l0 k most a (i : Int) p.f0 p.f1 p.f2 p.f3.f0 p.f3.f1 p.f3.f2 p.f3.f3.f0 p.f3.f3.f1 p.f4.f0 p.f4.f1 p.f4.f2 p.f4.f3.f0 p.f4.f3.f1 p.f5 = some r := by
      intro d
      induction d with
      | zero =>
        intro i k most a hi hd hk
        obtain ⟨k, rfl⟩ : ∃ m, k = m + 1 := ⟨k - 1, by omega⟩
        rw [watersmeetref06_Size.l0, if_neg (by omega)]; exact ⟨_, rfl⟩
      | succ d ihd =>
        intro i k most a hi hd hk
        obtain ⟨k, rfl⟩ : ∃ m, k = m + 1 := ⟨k - 1, by omega⟩
        have hlt : i < p.f5.length := by omega
        rw [watersmeetref06_Size.l0, if_pos (by omega)]
        split
        · rw [if_pos (by omega), rdP hlt]
          obtain ⟨r, hr⟩ := hK k (by omega) i hlt (wrap64 (most - a))
          unfold sizeF at hr
          rw [hr, Option.bind_some, wrap_succ (by omega)]
          exact ihd (i + 1) k _ _ (by omega) (by omega) (by omega)
        · exact ⟨_, rfl⟩
    refine ⟨K + p.f5.length + 5, fun k hk most => ?_⟩
    obtain ⟨k, rfl⟩ : ∃ m, k = m + 1 := ⟨k - 1, by omega⟩
    unfold sizeF
    rw [watersmeetref06_Size.f]
    exact hloop p.f5.length 0 k most 1 (by omega) (by omega) (by omega)
def fewF (k : Nat) (p : SP) (r : List (List SV)) := watersmeetlaw06_Few.f k p.f0 p.f1 p.f2 p.f3.f0 p.f3.f1 p.f3.f2 p.f3.f3.f0 p.f3.f3.f1 p.f4.f0 p.f4.f1 p.f4.f2 p.f4.f3.f0 p.f4.f3.f1 p.f5 r
theorem few_some (m : Nat) (p : SP) (hp : Bn m p) (r : List (List SV)) (hr : r.length ≤ 9223372036854775807) : ∃ K b, ∀ k, K ≤ k → fewF k p r = some b := by
  obtain ⟨K, hK⟩ := size_some m p hp
  have hend : ∀ (k : Nat) (i : Int), K < k → ∃ b, watersmeetlaw06_Few.j1 k r i false p.f0 p.f1 p.f2 p.f3.f0 p.f3.f1 p.f3.f2 p.f3.f3.f0 p.f3.f3.f1 p.f4.f0 p.f4.f1 p.f4.f2 p.f4.f3.f0 p.f4.f3.f1 p.f5 = some b := by
    intro k i hk
    obtain ⟨k, rfl⟩ : ∃ m, k = m + 1 := ⟨k - 1, by omega⟩
    rw [watersmeetlaw06_Few.j1, if_neg (by simp)]
    split
    · obtain ⟨x, hx⟩ := hK k (by omega) 201
      unfold sizeF at hx
      rw [hx]; exact ⟨_, rfl⟩
    · exact ⟨_, rfl⟩
  have hloop : ∀ (d i k : Nat), i ≤ r.length → r.length - i = d → K + 2 * d + 4 < k → ∃ b, watersmeetlaw06_Few.l0 k r (i : Int) p.f0 p.f1 p.f2 p.f3.f0 p.f3.f1 p.f3.f2 p.f3.f3.f0 p.f3.f3.f1 p.f4.f0 p.f4.f1 p.f4.f2 p.f4.f3.f0 p.f4.f3.f1 p.f5 = some b := by
    intro d
    induction d with
    | zero =>
      intro i k hi hd hk
      obtain ⟨k, rfl⟩ : ∃ m, k = m + 1 := ⟨k - 1, by omega⟩
      rw [watersmeetlaw06_Few.l0, if_neg (by omega)]
      exact hend k _ (by omega)
    | succ d ihd =>
      intro i k hi hd hk
      obtain ⟨k, rfl⟩ : ∃ m, k = m + 1 := ⟨k - 1, by omega⟩
      rw [watersmeetlaw06_Few.l0, if_pos (by omega)]
      cases hc : decide ((i : Int) < 100) with
      | false => exact hend k _ (by omega)
      | true =>
        obtain ⟨k, rfl⟩ : ∃ m, k = m + 1 := ⟨k - 1, by omega⟩
        rw [watersmeetlaw06_Few.j1, if_pos rfl, if_pos (by omega), if_pos (by omega)]
        split
        · exact ⟨_, rfl⟩
        · rw [wrap_succ (by omega)]
          exact ihd (i + 1) k (by omega) (by omega) (by omega)
  obtain ⟨b, hb⟩ := hloop r.length 0 (K + 2 * r.length + 5) (by omega) (by omega) (by omega)
  refine ⟨K + 2 * r.length + 5, b, fun k hk => ?_⟩
  unfold fewF
  induction hk with
  | refl => exact hb
  | step _ ih => exact watersmeetlaw06_Few.mono _ _ _ _ _ _ _ _ _ _ _ _ _ _ _ _ _ ih
theorem awake_ev : ∃ K, ∀ k, K ≤ k → watersmeetlaw06_awake.f k = some true := by
  refine ⟨40, fun k hk => ?_⟩
  induction hk with
  | refl => decide +kernel
  | step _ ih => exact watersmeetlaw06_awake.mono _ _ ih
end Go.Proofs.Ytigkkfhpnfjmhaa.PredOfPredU
