/- Plain facts on words as sets, digit by digit; the set of a list is the same by both. -/
import Derived.Laws.BitsAllLaws
import Derived.Laws.BitsLemmas
import Derived.Laws.Bits64
import Derived.Test.YtceleegbbclajaaDoorYF4
namespace Go.Proofs.YtceleegbbclajaaDoor.AL
open Go
set_option linter.unusedVariables false
set_option linter.unusedSimpArgs false
set_option maxRecDepth 4000
/-- The word whose digits below n are those of P. -/
def word (P : Nat → Bool) : Nat → Nat
  | 0 => 0
  | n + 1 => word P n + if P n then 2 ^ n else 0
theorem word_lt (P : Nat → Bool) : ∀ n, word P n < 2 ^ n
  | 0 => by simp [word]
  | n + 1 => by
    have := word_lt P n
    unfold word
    rw [Nat.pow_succ]
    split <;> omega
theorem testBit_word (P : Nat → Bool) : ∀ n j, (word P n).testBit j = (decide (j < n) && P j)
  | 0, j => by simp [word]
  | n + 1, j => by
    have hlt := word_lt P n
    have ih := testBit_word P n
    unfold word
    by_cases hp : P n = true
    · rw [if_pos hp, Nat.add_comm]
      by_cases e : j = n
      · subst e
        rw [Nat.testBit_two_pow_add_eq, ih]
        simp [hp]
      · by_cases l : j < n
        · rw [Nat.testBit_two_pow_add_gt l, ih]
          have : j < n + 1 := by omega
          simp [l, this]
        · have h1 : ¬ j < n + 1 := by omega
          simp only [h1, decide_false, Bool.false_and]
          apply Nat.testBit_lt_two_pow
          calc 2 ^ n + word P n < 2 ^ n + 2 ^ n := by omega
            _ = 2 ^ (n + 1) := by rw [Nat.pow_succ]; omega
            _ ≤ 2 ^ j := Nat.pow_le_pow_right (by omega) (by omega)
    · rw [if_neg hp, Nat.add_zero, ih]
      by_cases e : j = n
      · subst e; simp [hp]
      · by_cases l : j < n
        · have : j < n + 1 := by omega
          simp [l, this]
        · have : ¬ j < n + 1 := by omega
          simp [l, this]
theorem word_congr {P Q : Nat → Bool} : ∀ {n}, (∀ i, i < n → P i = Q i) → word P n = word Q n
  | 0, _ => rfl
  | n + 1, h => by
    unfold word
    rw [word_congr (fun i hi => h i (by omega)), h n (by omega)]
/-- A word of 64 digits is told by its digits. -/
theorem eq_word {s : Nat} (hs : s < 2 ^ 64) (P : Nat → Bool) (h : ∀ j, j < 64 → s.testBit j = P j) : s = word P 64 := by
  apply Nat.eq_of_testBit_eq
  intro j
  rw [testBit_word]
  by_cases hj : j < 64
  · simp [hj, h j hj]
  · rw [Nat.testBit_lt_two_pow (Nat.lt_of_lt_of_le hs (Nat.pow_le_pow_right (by omega) (by omega)))]
    simp [hj]
theorem eq_of_digits {s t : Nat} (hs : s < 2 ^ 64) (ht : t < 2 ^ 64) (h : ∀ j, j < 64 → s.testBit j = t.testBit j) : s = t := by
  rw [eq_word hs t.testBit h, ← eq_word ht t.testBit (fun _ _ => rfl)]
theorem pow64 : (2 : Nat) ^ 64 = 18446744073709551616 := by decide
theorem lt_word (P : Nat → Bool) : word P 64 < 18446744073709551616 := by rw [← pow64]; exact word_lt P 64

theorem div_mod_testBit (s i : Nat) : s / 2 ^ i % 2 = 1 ↔ s.testBit i = true := by
  rw [Nat.testBit, Nat.shiftRight_eq_div_pow, Nat.and_comm, Nat.and_one_is_mod]
  by_cases h : s / 2 ^ i % 2 = 1
  · simp [h]
  · have : s / 2 ^ i % 2 = 0 := by omega
    simp [this]

/-- A set's member, of an int. -/
def hasI (s : Nat) (i : Int) : Bool := decide (0 ≤ i) && decide (i < 64) && s.testBit i.toNat
/-- The members of a list. -/
def memI (l : List Int) (i : Nat) : Bool := decide ((i : Int) ∈ l)
def ofs (l : List Int) : Nat := word (memI l) 64
theorem ofs_lt (l : List Int) : ofs l < 18446744073709551616 := lt_word _
theorem testBit_ofs (l : List Int) (j : Nat) : (ofs l).testBit j = (decide (j < 64) && memI l j) := testBit_word _ _ _

/-- One member. -/
def oneN (i : Int) : Nat := if 0 ≤ i ∧ i < 64 then 2 ^ i.toNat else 0
theorem oneN_lt (i : Int) : oneN i < 18446744073709551616 := by
  unfold oneN
  split
  · rw [← pow64]; exact Nat.pow_lt_pow_right (by omega) (by omega)
  · omega
theorem testBit_oneN (i : Int) (j : Nat) (hj : j < 64) : (oneN i).testBit j = decide ((j : Int) = i) := by
  unfold oneN
  split
  · rw [Nat.testBit_two_pow]
    by_cases h : i.toNat = j
    · have : (j : Int) = i := by omega
      simp [h, this]
    · have : ¬ (j : Int) = i := by omega
      simp [h, this]
  · have : ¬ (j : Int) = i := by omega
    simp [this]
theorem orN_lt {a b : Nat} (ha : a < 18446744073709551616) (hb : b < 18446744073709551616) : a ||| b < 18446744073709551616 := by
  rw [← pow64] at *; exact Nat.or_lt_two_pow ha hb
theorem and_lt {a b : Nat} (ha : a < 18446744073709551616) : a &&& b < 18446744073709551616 := Nat.lt_of_le_of_lt Nat.and_le_left ha
theorem ofs_nil : ofs [] = 0 := by
  apply eq_of_digits (by rw [pow64]; exact ofs_lt _) (by omega)
  intro j hj
  simp [testBit_ofs, memI]
theorem ofs_snoc (l : List Int) (x : Int) : ofs (l ++ [x]) = ofs l ||| oneN x := by
  apply eq_of_digits (by rw [pow64]; exact ofs_lt _) (by rw [pow64]; exact orN_lt (ofs_lt _) (oneN_lt _))
  intro j hj
  rw [Nat.testBit_or, testBit_ofs, testBit_ofs, testBit_oneN _ _ hj]
  simp [hj, memI]
theorem ofs_one (x : Int) : ofs [x] = oneN x := by
  have := ofs_snoc [] x
  rw [ofs_nil, List.nil_append] at this
  simpa using this

/-! ### words as ints -/
theorem u64_nat {n : Nat} (h : n < 18446744073709551616) : IntKind.u64.wrap (n : Int) = (n : Int) := by rw [IntKind.wrap_u64]; omega
theorem or_cast {a b : Nat} (ha : a < 18446744073709551616) (hb : b < 18446744073709551616) : Go.bits .or .u64 (a : Int) (b : Int) = ((a ||| b : Nat) : Int) := u64_or_nat a b ha hb
theorem and_cast {a b : Nat} (ha : a < 18446744073709551616) (hb : b < 18446744073709551616) : Go.bits .and .u64 (a : Int) (b : Int) = ((a &&& b : Nat) : Int) := u64_and_nat a b ha hb

theorem oneF_nat (i : Int) : oneF i = ((oneN i : Nat) : Int) := by
  unfold oneF oneN
  by_cases h : i < 0 ∨ i ≥ 64
  · rw [if_pos h, if_neg (by omega)]; rfl
  · rw [if_neg h, if_pos (by omega)]
theorem setF_ofs (l : List Int) : setF l = ((ofs l : Nat) : Int) := by
  have key : ∀ (m l : List Int), m.foldl (fun a x => bits .or .u64 a (oneF x)) ((ofs l : Nat) : Int) = ((ofs (l ++ m) : Nat) : Int) := by
    intro m
    induction m with
    | nil => intro l; simp
    | cons x m ih =>
      intro l
      rw [List.foldl_cons, oneF_nat, or_cast (ofs_lt _) (oneN_lt _), ← ofs_snoc, ih, List.append_assoc]; rfl
  have := key l []
  rw [ofs_nil, List.nil_append] at this
  exact this
theorem refSetU_word (l : List Int) : ∀ n, n ≤ 64 → refSetU l n = ((word (memI l) n : Nat) : Int)
  | 0, _ => rfl
  | n + 1, h => by
    have h1 := word_lt (memI l) n
    have h2 : (2 : Nat) ^ (n + 1) ≤ 2 ^ 64 := Nat.pow_le_pow_right (by omega) h
    rw [pow64, Nat.pow_succ] at h2
    rw [refSetU_succ, refSetU_word l n (by omega)]
    rw [show word (memI l) (n + 1) = word (memI l) n + (if memI l n then 2 ^ n else 0) from rfl]
    by_cases hm : (n : Int) ∈ l
    · rw [if_pos hm, if_pos (by simp [memI, hm])]
      have : powF n = ((2 ^ n : Nat) : Int) := rfl
      rw [this, ← Int.natCast_add, u64_nat (by omega)]
    · rw [if_neg hm, if_neg (by simp [memI, hm]), Nat.add_zero]
theorem set_same (l : List Int) : setF l = refSetF l := by
  rw [setF_ofs]; exact (refSetU_word l 64 (by omega)).symm
end Go.Proofs.YtceleegbbclajaaDoor.AL
