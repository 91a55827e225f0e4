/- What package term's functions and their reference come to, for every term and all rows. -/
import Derived.Test.YtjjhdfpdoopedaaPTermx5
import Derived.Test.YtjjhdfpdoopedaaSetOfTerm
namespace Go.Proofs.Ytjjhdfpdoopedaa.TermFactsTerm
open Go.RowKit Go.Proofs.Ytjjhdfpdoopedaa.PTerm Go.Proofs.YtjjhdfpdoopedaaW.PrintWords Go.Proofs.YtjjhdfpdoopedaaW.PrintLast Go.Proofs.YtjjhdfpdoopedaaW.PrintMore Go.Proofs.Ytjjhdfpdoopedaa.Bits Go.Proofs.Ytjjhdfpdoopedaa.SetOfTerm
set_option linter.unusedVariables false
set_option linter.unusedSimpArgs false

/-- The value at a table's column: null where there is none. -/
def cell (l : List (List S31)) (t c : Int) : Bool × Int :=
  if 0 ≤ t ∧ t < l.length then
    if 0 ≤ c ∧ c < ((l.getD t.toNat []).length : Int) then (((l.getD t.toNat []).getD c.toNat z31).f0, ((l.getD t.toNat []).getD c.toNat z31).f1) else (true, 0)
  else (true, 0)
theorem row_f (l : List (List S31)) (t : Int) : term_row.f l t = some (if 0 ≤ t ∧ t < l.length then l.getD t.toNat [] else []) := by
  unfold term_row.f
  by_cases h : t < 0
  · rw [if_pos h, if_neg (by omega)]
  · by_cases h2 : t ≥ l.length
    · rw [if_neg h, if_pos h2, if_neg (by omega)]
    · rw [if_neg h, if_neg h2, if_pos (by omega), if_pos (by omega), if_pos (by omega)]; rfl
theorem of_col (t c : Int) (n : Bool) (v : Int) (l : List (List S31)) : term_Of.f 1 t c n v l = some (cell l t c) := by
  unfold term_Of.f cell
  rw [if_pos rfl, row_f, Option.bind_some]
  by_cases h : 0 ≤ t ∧ t < l.length
  · rw [if_pos h, if_pos h]
    generalize l.getD t.toNat [] = r
    by_cases h1 : c < 0
    · rw [if_pos h1, if_neg (by omega)]
    · by_cases h2 : c ≥ r.length
      · rw [if_neg h1, if_pos h2, if_neg (by omega)]
      · rw [if_neg h1, if_neg h2, if_pos (by omega), if_pos (by omega), if_pos (by omega)]; rfl
  · rw [if_neg h, if_neg h]
    by_cases h1 : c < 0
    · rw [if_pos h1]
    · rw [if_neg h1, if_pos (by simp; omega)]
theorem of_val {k t c : Int} (hk : k ≠ 1) (n : Bool) (v : Int) (l : List (List S31)) : term_Of.f k t c n v l = some (n, v) := by
  unfold term_Of.f; rw [if_neg hk]

theorem ref_inner (l : List (List S31)) (t c a0 v : Int) (n : Bool) (i : Nat) (hi : i < l.length) (hr : (l.getD i []).length ≤ 9223372036854775807) (hl : l.length ≤ 9223372036854775807) :
    ∀ (d j : Nat), j ≤ (l.getD i []).length → (l.getD i []).length - j = d → (¬ (t = i ∧ 0 ≤ c ∧ c < j)) → ∀ k r, d + 1 < k →
      (t = i ∧ 0 ≤ c ∧ c < (l.getD i []).length → r = (((l.getD i []).getD c.toNat z31).f0, ((l.getD i []).getD c.toNat z31).f1)) →
      (¬ (t = i ∧ 0 ≤ c ∧ c < (l.getD i []).length) → ∀ k', k - d - 2 ≤ k' → watersmeetref05_Of.l0 k' l ((i + 1 : Nat) : Int) a0 t c n v = some r) →
      watersmeetref05_Of.l1 k l (i : Int) (j : Int) a0 t c n v = some r := by
  have hrd : rd_L3 l (i : Int) = l.getD i [] := by unfold rd_L3; rw [Int.toNat_natCast]
  intro d
  induction d with
  | zero =>
    intro j hj hd hno k r hk h1 h2
    obtain ⟨k, rfl⟩ : ∃ m, k = m + 1 := ⟨k - 1, by omega⟩
    obtain rfl : j = (l.getD i []).length := by omega
    rw [watersmeetref05_Of.l1, if_pos (by omega), if_pos (by omega), hrd, if_neg (by omega), wrap_succ (by omega)]
    exact h2 hno k (by omega)
  | succ d ih =>
    intro j hj hd hno k r hk h1 h2
    obtain ⟨k, rfl⟩ : ∃ m, k = m + 1 := ⟨k - 1, by omega⟩
    rw [watersmeetref05_Of.l1, if_pos (by omega), if_pos (by omega), hrd, if_pos (by omega)]
    have hrv : rd_T31 (l.getD i []) (j : Int) = (l.getD i []).getD j z31 := by unfold rd_T31; rw [Int.toNat_natCast]
    by_cases e1 : (i : Int) = t
    · rw [if_pos e1]
      by_cases e2 : (j : Int) = c
      · rw [if_pos e2, if_pos (by omega), hrv, h1 (by omega)]
        have : c.toNat = j := by omega
        rw [this]
      · rw [if_neg e2, wrap_succ (by omega)]
        exact ih (j + 1) (by omega) (by omega) (by omega) k r (by omega) h1 (fun h k' hk' => h2 h k' (by omega))
    · rw [if_neg e1, wrap_succ (by omega)]
      exact ih (j + 1) (by omega) (by omega) (by omega) k r (by omega) h1 (fun h k' hk' => h2 h k' (by omega))
/-- More rounds than all cells there are. -/
def many (l : List (List S31)) : Nat → Nat
  | 0 => 1
  | d + 1 => many l d + (l.getD (l.length - (d + 1)) []).length + 4
theorem ref_outer (l : List (List S31)) (t c a0 v : Int) (n : Bool) (hl : l.length ≤ 9223372036854775807) (hr : ∀ i, (l.getD i []).length ≤ 9223372036854775807) :
    ∀ (d i : Nat), i ≤ l.length → l.length - i = d → (¬ (0 ≤ t ∧ t < i)  ∨ cell l t c = (true, 0)) → ∀ k, many l d ≤ k → watersmeetref05_Of.l0 k l (i : Int) a0 t c n v = some (cell l t c) := by
  intro d
  induction d with
  | zero =>
    intro i hi hd hno k hk
    unfold many at hk
    obtain ⟨k, rfl⟩ : ∃ m, k = m + 1 := ⟨k - 1, by omega⟩
    obtain rfl : i = l.length := by omega
    rw [watersmeetref05_Of.l0, if_neg (by omega)]
    rcases hno with h | h
    · unfold cell; rw [if_neg (by omega)]
    · rw [h]
  | succ d ih =>
    intro i hi hd hno k hk
    unfold many at hk
    have ei : l.length - (d + 1) = i := by omega
    rw [ei] at hk
    obtain ⟨k, rfl⟩ : ∃ m, k = m + 1 := ⟨k - 1, by omega⟩
    rw [watersmeetref05_Of.l0, if_pos (by omega)]
    have h0 : watersmeetref05_Of.l1 k l (i : Int) ((0 : Nat) : Int) a0 t c n v = some (cell l t c) := by
      refine ref_inner l t c a0 v n i (by omega) (hr i) hl (l.getD i []).length 0 (by omega) (by omega) (by omega) k _ (by omega) (fun h => ?_) (fun h k' hk' => ih (i + 1) (by omega) (by omega) ?_ k' (by omega))
      · obtain ⟨rfl, h1, h2⟩ := h
        unfold cell
        rw [if_pos (by omega), Int.toNat_natCast, if_pos (by omega)]
      · by_cases e : t = i
        · right
          subst e
          unfold cell
          rw [if_pos (by omega), Int.toNat_natCast, if_neg (by omega)]
        · rcases hno with h | h
          · left; omega
          · right; exact h
    exact h0
theorem ref_of_col (t c v : Int) (n : Bool) (l : List (List S31)) (hl : l.length ≤ 9223372036854775807) (hr : ∀ i, (l.getD i []).length ≤ 9223372036854775807) {k : Nat} (hk : many l l.length ≤ k) :
    watersmeetref05_Of.f k 1 t c n v l = some (cell l t c) := by
  unfold watersmeetref05_Of.f
  rw [if_pos rfl]
  exact ref_outer l t c 1 v n hl hr l.length 0 (by omega) (by omega) (Or.inl (by omega)) k hk
theorem ref_of_val {a t c : Int} (ha : a ≠ 1) (n : Bool) (v : Int) (l : List (List S31)) (k : Nat) : watersmeetref05_Of.f k a t c n v l = some (n, v) := by
  unfold watersmeetref05_Of.f; rw [if_neg ha]

theorem right_f (a t c v : Int) (n : Bool) : watersmeetref05_Right.f a t c n v = some (term_Right.v a t c n v) := by
  unfold watersmeetref05_Right.f term_Right.v watersmeetref03_Right.f
  by_cases h1 : a = 1
  · rw [if_pos h1, if_pos h1]
    by_cases h2 : t ≥ 0
    · by_cases h3 : t ≤ 63
      · by_cases h4 : c ≥ 0
        · by_cases h5 : c ≤ 3
          · rw [if_pos h2, if_pos h3, if_pos h4, if_pos h5]
            have e1 : t < 64 := by omega
            have e2 : c < 4 := by omega
            cases n <;> simp [h2, h4, e1, e2]
          · have e2 : ¬ c < 4 := by omega
            rw [if_pos h2, if_pos h3, if_pos h4, if_neg h5]; simp [e2]
        · have e2 : ¬ 0 ≤ c := by omega
          rw [if_pos h2, if_pos h3, if_neg h4]; simp [e2]
      · have e2 : ¬ t < 64 := by omega
        rw [if_pos h2, if_neg h3]; simp [e2]
    · have e2 : ¬ 0 ≤ t := by omega
      rw [if_neg h2]; simp [e2]
  · rw [if_neg h1, if_neg h1]
    by_cases h2 : a = 2
    · rw [if_pos h2]
      by_cases h3 : t = 0
      · by_cases h4 : c = 0
        · rw [if_pos h3, if_pos h4]
          cases n <;> simp [h2, h3, h4]
        · rw [if_pos h3, if_neg h4]; simp [h4]
      · rw [if_neg h3]; simp [h3]
    · rw [if_neg h2]; simp [h2]
theorem tables_f (a t c v : Int) (n : Bool) {k : Nat} (hk : 1 < k) : term_Tables.f k a t c n v = some (if a = 1 then ((oneN t : Nat) : Int) else 0) := by
  unfold term_Tables.f
  by_cases h : a = 1
  · rw [if_pos h, if_pos h, of_f [t] (by simp) (by simpa using hk), Option.bind_some, ofs_one]
  · rw [if_neg h, if_neg h]
theorem ref_tables_f (a t c v : Int) (n : Bool) {k : Nat} (hk : 5000 < k) : watersmeetref05_Tables.f k a t c n v = some (if a = 1 then ((oneN t : Nat) : Int) else 0) := by
  unfold watersmeetref05_Tables.f
  by_cases h : a = 1
  · rw [if_pos h, if_pos h, ref_of_f [t] (by simp) (by simp; omega), Option.bind_some, ofs_one]
  · rw [if_neg h, if_neg h]
theorem few_f (l : List (List S31)) (hl : l.length ≤ 9223372036854775807) : ∀ (d i : Nat), i ≤ l.length → l.length - i = d → ∃ b, ∀ k, 2 * d + 2 ≤ k → watersmeetlaw05_few.l0 k l (i : Int) = some b := by
  intro d
  induction d with
  | zero =>
    intro i hi hd
    obtain rfl : i = l.length := by omega
    refine ⟨decide ((l.length : Int) ≤ 70), fun k hk => ?_⟩
    obtain ⟨k, rfl⟩ : ∃ m, k = m + 2 := ⟨k - 2, by omega⟩
    rw [watersmeetlaw05_few.l0, if_neg (by omega), watersmeetlaw05_few.j1, if_neg (by simp)]
  | succ d ih =>
    intro i hi hd
    obtain ⟨b, hb⟩ := ih (i + 1) (by omega) (by omega)
    by_cases h1 : (i : Int) < 100
    · by_cases h2 : ((rd_L3 l (i : Int)).length : Int) > 20
      · refine ⟨false, fun k hk => ?_⟩
        obtain ⟨k, rfl⟩ : ∃ m, k = m + 2 := ⟨k - 2, by omega⟩
        rw [watersmeetlaw05_few.l0, if_pos (by omega), watersmeetlaw05_few.j1, if_pos (by simpa using h1), if_pos (by omega), if_pos (by omega), if_pos h2]
      · refine ⟨b, fun k hk => ?_⟩
        obtain ⟨k, rfl⟩ : ∃ m, k = m + 2 := ⟨k - 2, by omega⟩
        rw [watersmeetlaw05_few.l0, if_pos (by omega), watersmeetlaw05_few.j1, if_pos (by simpa using h1), if_pos (by omega), if_pos (by omega), if_neg h2, wrap_succ (by omega)]
        exact hb k (by omega)
    · refine ⟨decide ((l.length : Int) ≤ 70), fun k hk => ?_⟩
      obtain ⟨k, rfl⟩ : ∃ m, k = m + 2 := ⟨k - 2, by omega⟩
      rw [watersmeetlaw05_few.l0, if_pos (by omega), watersmeetlaw05_few.j1, if_neg (by simpa using h1)]
theorem awake {k : Nat} (hk : 1 < k) : watersmeetlaw05_awake.f k = some true := by
  unfold watersmeetlaw05_awake.f
  rw [of_col, Option.bind_some, if_pos (by decide), tables_f _ _ _ _ _ hk, of_col]
  simp only [term_Right.f, term_Same.f, Option.bind_some]
  decide
end Go.Proofs.Ytjjhdfpdoopedaa.TermFactsTerm
