/- Plain facts on the members of a word: their list in order, a difference of sets, a set within a set. No program. -/
import Derived.Test.YtigkkfhpnfjmhaaStep
namespace Go.Proofs.Ytigkkfhpnfjmhaa.Bits
open Go Go.RowKit
set_option linter.unusedVariables false
set_option linter.unusedSimpArgs false

/-- The members from a place on. -/
def mem (P : Nat → Bool) (i d : Nat) : List Int := ((List.range' i d).filter P).map (fun j : Nat => (j : Int))
theorem mem_zero (P : Nat → Bool) (i : Nat) : mem P i 0 = [] := rfl
theorem mem_succ (P : Nat → Bool) (i d : Nat) : mem P i (d + 1) = if P i then (i : Int) :: mem P (i + 1) d else mem P (i + 1) d := by
  unfold mem
  rw [List.range'_succ, List.filter_cons]
  split <;> simp
theorem mem_congr {P Q : Nat → Bool} : ∀ (d i : Nat), (∀ j, i ≤ j → j < i + d → P j = Q j) → mem P i d = mem Q i d
  | 0, i, h => rfl
  | d + 1, i, h => by
    rw [mem_succ, mem_succ, h i (by omega) (by omega), mem_congr d (i + 1) (fun j a b => h j (by omega) (by omega))]
theorem mem_in {P : Nat → Bool} {i d : Nat} {x : Int} (h : x ∈ mem P i d) : ∃ j : Nat, x = (j : Int) ∧ i ≤ j ∧ j < i + d ∧ P j = true := by
  simp only [mem, List.mem_map, List.mem_filter, List.mem_range'_1] at h
  obtain ⟨j, ⟨⟨h1, h2⟩, h3⟩, rfl⟩ := h
  exact ⟨j, rfl, h1, by omega, h3⟩
theorem in_mem {P : Nat → Bool} {i d j : Nat} (h1 : i ≤ j) (h2 : j < i + d) (h3 : P j = true) : (j : Int) ∈ mem P i d := by
  simp only [mem, List.mem_map, List.mem_filter, List.mem_range'_1]
  exact ⟨j, ⟨⟨h1, by omega⟩, h3⟩, rfl⟩
theorem mem_length (P : Nat → Bool) (i d : Nat) : (mem P i d).length ≤ d := by
  unfold mem
  rw [List.length_map]
  exact Nat.le_trans (List.length_filter_le _ _) (by simp)
theorem ofs_mem (P : Nat → Bool) : ofs (mem P 0 64) = word P 64 := by
  unfold ofs
  apply word_congr
  intro i hi
  unfold memI
  by_cases h : P i = true
  · simp only [h, decide_eq_true_eq]; exact in_mem (by omega) (by omega) h
  · have : ¬ (i : Int) ∈ mem P 0 64 := fun e => by
      obtain ⟨j, e1, _, _, e2⟩ := mem_in e
      have : i = j := by omega
      exact h (this ▸ e2)
    simp [h, this]
theorem mem_snoc (P : Nat → Bool) : ∀ (i : Nat), mem P 0 (i + 1) = mem P 0 i ++ (if P i then [(i : Int)] else []) := by
  intro i
  unfold mem
  rw [List.range'_concat, List.filter_append, List.map_append]
  simp only [Nat.zero_add, Nat.one_mul, List.filter_cons, List.filter_nil]
  split <;> simp

/-- A set without another. -/
def less (a b : Nat) : Nat := a &&& (18446744073709551615 - b)
theorem less_cast {a b : Nat} (ha : a < 18446744073709551616) (hb : b < 18446744073709551616) : Go.bits .andNot .u64 (a : Int) (b : Int) = ((less a b : Nat) : Int) := u64_andNot_nat a b ha hb
theorem less_lt {a : Nat} (ha : a < 18446744073709551616) (b : Nat) : less a b < 18446744073709551616 := Nat.lt_of_le_of_lt Nat.and_le_left ha
theorem testBit_less (a b j : Nat) (hb : b < 18446744073709551616) (hj : j < 64) : (less a b).testBit j = (a.testBit j && !b.testBit j) := by
  unfold less
  have e : 18446744073709551615 - b = 2 ^ 64 - (b + 1) := by rw [pow64]; omega
  rw [Nat.testBit_and, e, Nat.testBit_two_pow_sub_succ (by rw [pow64]; exact hb)]
  simp [hj]
theorem and_pow (a i : Nat) : a &&& 2 ^ i = if a.testBit i then 2 ^ i else 0 := by
  apply Nat.eq_of_testBit_eq
  intro j
  rw [Nat.testBit_and, Nat.testBit_two_pow]
  by_cases e : i = j
  · subst e
    cases h : a.testBit i <;> simp
  · cases h : a.testBit i <;> simp [e, Nat.testBit_two_pow]
theorem and_two_pow_ne {a i : Nat} : (a &&& 2 ^ i ≠ 0) ↔ a.testBit i = true := by
  rw [and_pow]
  have hp : 0 < 2 ^ i := Nat.two_pow_pos i
  cases h : a.testBit i
  · simp
  · simp
theorem has_cast {a i : Nat} (ha : a < 18446744073709551616) (hi : i < 64) : (Go.bits .and .u64 (a : Int) ((2 ^ i : Nat) : Int) != 0) = a.testBit i := by
  have h1 : (2 : Nat) ^ i < 18446744073709551616 := by rw [← pow64]; exact Nat.pow_lt_pow_right (by omega) hi
  rw [and_cast ha h1]
  cases h : a.testBit i with
  | true =>
    have := and_two_pow_ne.2 h
    simp only [bne_iff_ne, ne_eq]
    omega
  | false =>
    have : a &&& 2 ^ i = 0 := by
      rw [and_pow, h]; simp
    rw [this]; rfl
/-- A set within another. -/
def inB (a b : Nat) : Bool := less a b == 0
theorem inB_iff {a b : Nat} (ha : a < 18446744073709551616) (hb : b < 18446744073709551616) : inB a b = true ↔ ∀ j, j < 64 → a.testBit j = true → b.testBit j = true := by
  unfold inB
  simp only [beq_iff_eq]
  constructor
  · intro h j hj h1
    have := testBit_less a b j hb hj
    rw [h, h1] at this
    simpa using this
  · intro h
    apply eq_of_digits (by rw [pow64]; exact less_lt ha b) (by omega)
    intro j hj
    rw [testBit_less a b j hb hj]
    cases h1 : a.testBit j with
    | false => simp
    | true => simp [h j hj h1]
end Go.Proofs.Ytigkkfhpnfjmhaa.Bits
