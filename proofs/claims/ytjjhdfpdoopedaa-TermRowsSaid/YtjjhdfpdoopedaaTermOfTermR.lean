/- What package term's functions come to, for every term and all rows. -/
import Derived.Test.YtjjhdfpdoopedaaPTermRx3
import Derived.Test.YtjjhdfpdoopedaaPTermRx3
import Derived.Test.YtjjhdfpdoopedaaSetOfTermR
namespace Go.Proofs.Ytjjhdfpdoopedaa.TermOfTermR
open Go.RowKit Go.Proofs.Ytjjhdfpdoopedaa.PTermR Go.Proofs.YtjjhdfpdoopedaaW.PrintWords Go.Proofs.YtjjhdfpdoopedaaW.PrintLast Go.Proofs.YtjjhdfpdoopedaaW.PrintMore Go.Proofs.Ytjjhdfpdoopedaa.Bits Go.Proofs.Ytjjhdfpdoopedaa.SetOfTermR
set_option linter.unusedVariables false
set_option linter.unusedSimpArgs false

/-- The value at a table's column: null where there is none. -/
def cell (l : List (List S31)) (t c : Int) : Bool × Int :=
  if 0 ≤ t ∧ t < l.length then
    if 0 ≤ c ∧ c < ((l.getD t.toNat []).length : Int) then (((l.getD t.toNat []).getD c.toNat z31).f0, ((l.getD t.toNat []).getD c.toNat z31).f1) else (true, 0)
  else (true, 0)
theorem row_f (l : List (List S31)) (t : Int) : term_row.f l t = some (if 0 ≤ t ∧ t < l.length then l.getD t.toNat [] else []) := by
  unfold term_row.f
  by_cases h : t < 0
  · rw [if_pos h, if_neg (by omega)]
  · by_cases h2 : t ≥ l.length
    · rw [if_neg h, if_pos h2, if_neg (by omega)]
    · rw [if_neg h, if_neg h2, if_pos (by omega), if_pos (by omega), if_pos (by omega)]; rfl
theorem of_col (t c : Int) (n : Bool) (v : Int) (l : List (List S31)) : term_Of.f 1 t c n v l = some (cell l t c) := by
  unfold term_Of.f cell
  rw [if_pos rfl, row_f, Option.bind_some]
  by_cases h : 0 ≤ t ∧ t < l.length
  · rw [if_pos h, if_pos h]
    generalize l.getD t.toNat [] = r
    by_cases h1 : c < 0
    · rw [if_pos h1, if_neg (by omega)]
    · by_cases h2 : c ≥ r.length
      · rw [if_neg h1, if_pos h2, if_neg (by omega)]
      · rw [if_neg h1, if_neg h2, if_pos (by omega), if_pos (by omega), if_pos (by omega)]; rfl
  · rw [if_neg h, if_neg h]
    by_cases h1 : c < 0
    · rw [if_pos h1]
    · rw [if_neg h1, if_pos (by simp; omega)]
theorem of_val {k t c : Int} (hk : k ≠ 1) (n : Bool) (v : Int) (l : List (List S31)) : term_Of.f k t c n v l = some (n, v) := by
  unfold term_Of.f; rw [if_neg hk]

theorem tables_f (a t c v : Int) (n : Bool) {k : Nat} (hk : 1 < k) : term_Tables.f k a t c n v = some (if a = 1 then ((oneN t : Nat) : Int) else 0) := by
  unfold term_Tables.f
  by_cases h : a = 1
  · rw [if_pos h, if_pos h, of_f [t] (by simp) (by simpa using hk), Option.bind_some, ofs_one]
  · rw [if_neg h, if_neg h]
theorem few_f (l : List (List S31)) (hl : l.length ≤ 9223372036854775807) : ∀ (d i : Nat), i ≤ l.length → l.length - i = d → ∃ b, ∀ k, 2 * d + 2 ≤ k → watersmeetlaw05_few.l0 k l (i : Int) = some b := by
  intro d
  induction d with
  | zero =>
    intro i hi hd
    obtain rfl : i = l.length := by omega
    refine ⟨decide ((l.length : Int) ≤ 70), fun k hk => ?_⟩
    obtain ⟨k, rfl⟩ : ∃ m, k = m + 2 := ⟨k - 2, by omega⟩
    rw [watersmeetlaw05_few.l0, if_neg (by omega), watersmeetlaw05_few.j1, if_neg (by simp)]
  | succ d ih =>
    intro i hi hd
    obtain ⟨b, hb⟩ := ih (i + 1) (by omega) (by omega)
    by_cases h1 : (i : Int) < 100
    · by_cases h2 : ((rd_L3 l (i : Int)).length : Int) > 20
      · refine ⟨false, fun k hk => ?_⟩
        obtain ⟨k, rfl⟩ : ∃ m, k = m + 2 := ⟨k - 2, by omega⟩
        rw [watersmeetlaw05_few.l0, if_pos (by omega), watersmeetlaw05_few.j1, if_pos (by simpa using h1), if_pos (by omega), if_pos (by omega), if_pos h2]
      · refine ⟨b, fun k hk => ?_⟩
        obtain ⟨k, rfl⟩ : ∃ m, k = m + 2 := ⟨k - 2, by omega⟩
        rw [watersmeetlaw05_few.l0, if_pos (by omega), watersmeetlaw05_few.j1, if_pos (by simpa using h1), if_pos (by omega), if_pos (by omega), if_neg h2, wrap_succ (by omega)]
        exact hb k (by omega)
    · refine ⟨decide ((l.length : Int) ≤ 70), fun k hk => ?_⟩
      obtain ⟨k, rfl⟩ : ∃ m, k = m + 2 := ⟨k - 2, by omega⟩
      rw [watersmeetlaw05_few.l0, if_pos (by omega), watersmeetlaw05_few.j1, if_neg (by simpa using h1)]
theorem awake {k : Nat} (hk : 1 < k) : watersmeetlaw05_awake.f k = some true := by
  unfold watersmeetlaw05_awake.f
  rw [of_col, Option.bind_some, if_pos (by decide), tables_f _ _ _ _ _ hk, of_col]
  simp only [term_Right.f, term_Same.f, Option.bind_some]
  decide
end Go.Proofs.Ytjjhdfpdoopedaa.TermOfTermR
