/- What the reference's power and Of come to: the word whose digits are the members. -/
import Derived.Test.YtjjhdfpdoopedaaPGuessx4
import Derived.Test.YtjjhdfpdoopedaaStep
namespace Go.Proofs.Ytjjhdfpdoopedaa.RefOfGuess
open Go.RowKit Go.Proofs.Ytjjhdfpdoopedaa.PGuess Go.Proofs.YtjjhdfpdoopedaaW.PrintWords Go.Proofs.YtjjhdfpdoopedaaW.PrintLast Go.Proofs.YtjjhdfpdoopedaaW.PrintMore Go.Proofs.Ytjjhdfpdoopedaa.Bits
set_option linter.unusedVariables false
set_option linter.unusedSimpArgs false

theorem power_loop (n : Nat) (hn : n < 64) : ∀ (d k i : Nat), i ≤ n → n - i = d → d < k → watersmeetref01_power.l0 k (n : Int) ((2 ^ i : Nat) : Int) (i : Int) = some ((2 ^ n : Nat) : Int) := by
  intro d
  induction d with
  | zero =>
    intro k i hi hd hk
    obtain ⟨k, rfl⟩ : ∃ m, k = m + 1 := ⟨k - 1, by omega⟩
    obtain rfl : i = n := by omega
    rw [watersmeetref01_power.l0, if_neg (by omega)]
  | succ d ih =>
    intro k i hi hd hk
    obtain ⟨k, rfl⟩ : ∃ m, k = m + 1 := ⟨k - 1, by omega⟩
    have h2 : (2 : Nat) ^ (i + 1) < 18446744073709551616 := by rw [← pow64]; exact Nat.pow_lt_pow_right (by omega) (by omega)
    have e : IntKind.u64.wrap (((2 ^ i : Nat) : Int) * 2) = ((2 ^ (i + 1) : Nat) : Int) := by
      have e1 : (((2 ^ i : Nat) : Int) * 2) = ((2 ^ (i + 1) : Nat) : Int) := by rw [Nat.pow_succ]; simp
      rw [e1, u64_nat h2]
    rw [watersmeetref01_power.l0, if_pos (by omega), e, wrap_succ (by omega)]
    exact ih k (i + 1) (by omega) (by omega) (by omega)
theorem power_f {n : Nat} (hn : n < 64) {k : Nat} (hk : 64 ≤ k) : watersmeetref01_power.f k (n : Int) = some ((2 ^ n : Nat) : Int) :=
  power_loop n hn n k 0 (by omega) (by omega) (by omega)
/-- The inner search: behind it the outer loop goes on with the next number. -/
theorem ref_inner (l : List Int) (hl : l.length ≤ 9223372036854775807) (s n : Nat) (hn : n < 64) (hs : s + 2 ^ n < 18446744073709551616) : ∀ (d i : Nat), i ≤ l.length → l.length - i = d → (∀ j, j < i → l[j]? ≠ some (n : Int)) →
    ∀ k r, d + 64 < k → (∀ k', k - d - 2 ≤ k' → watersmeetref01_Of.l0 k' l ((s + (if memI l n then 2 ^ n else 0) : Nat) : Int) ((n + 1 : Nat) : Int) = some r) → watersmeetref01_Of.l1 k l (s : Int) (n : Int) (i : Int) = some r := by
  intro d
  induction d with
  | zero =>
    intro i hi hd hno k r hk h
    obtain ⟨k, rfl⟩ : ∃ m, k = m + 1 := ⟨k - 1, by omega⟩
    obtain rfl : i = l.length := by omega
    have hm : memI l n = false := by
      simp only [memI, decide_eq_false_iff_not]
      intro hmem
      obtain ⟨j, hj, e⟩ := List.getElem_of_mem hmem
      exact hno j hj (by rw [List.getElem?_eq_getElem hj, e])
    rw [watersmeetref01_Of.l1, if_neg (by omega), wrap_succ (by omega)]
    have := h k (by omega)
    rw [hm] at this
    simpa using this
  | succ d ih =>
    intro i hi hd hno k r hk h
    obtain ⟨k, rfl⟩ : ∃ m, k = m + 1 := ⟨k - 1, by omega⟩
    have hlt : i < l.length := by omega
    rw [watersmeetref01_Of.l1, if_pos (by omega), if_pos (by omega), rd_nat hlt]
    by_cases e : l[i] = (n : Int)
    · have hm : memI l n = true := by simp only [memI, decide_eq_true_eq]; rw [← e]; exact List.getElem_mem hlt
      rw [if_pos e, power_f hn (by omega), Option.bind_some, wrap_succ (by omega)]
      have e2 : IntKind.u64.wrap ((s : Int) + ((2 ^ n : Nat) : Int)) = ((s + 2 ^ n : Nat) : Int) := by
        have e1 : ((s : Int) + ((2 ^ n : Nat) : Int)) = ((s + 2 ^ n : Nat) : Int) := by push_cast; rfl
        rw [e1, u64_nat hs]
      rw [e2]
      have := h k (by omega)
      rw [hm] at this
      exact this
    · rw [if_neg e, wrap_succ (by omega)]
      refine ih (i + 1) (by omega) (by omega) (fun j hj => ?_) k r (by omega) (fun k' hk' => h k' (by omega))
      by_cases hj' : j < i
      · exact hno j hj'
      · obtain rfl : j = i := by omega
        rw [List.getElem?_eq_getElem hlt]
        simpa using e
theorem ref_outer (l : List Int) (hl : l.length ≤ 9223372036854775807) : ∀ (d n : Nat), n ≤ 64 → 64 - n = d → ∀ k, d * (l.length + 70) < k →
    watersmeetref01_Of.l0 k l ((word (memI l) n : Nat) : Int) (n : Int) = some ((ofs l : Nat) : Int) := by
  intro d
  induction d with
  | zero =>
    intro n hn hd k hk
    obtain ⟨k, rfl⟩ : ∃ m, k = m + 1 := ⟨k - 1, by omega⟩
    obtain rfl : n = 64 := by omega
    rw [watersmeetref01_Of.l0, if_neg (by omega)]
    rfl
  | succ d ih =>
    intro n hn hd k hk
    obtain ⟨k, rfl⟩ : ∃ m, k = m + 1 := ⟨k - 1, by omega⟩
    rw [watersmeetref01_Of.l0, if_pos (by omega)]
    have h1 := word_lt (memI l) n
    have h2 : (2 : Nat) ^ (n + 1) ≤ 18446744073709551616 := by rw [← pow64]; exact Nat.pow_le_pow_right (by omega) (by omega)
    have h3 : (2 : Nat) ^ (n + 1) = 2 ^ n + 2 ^ n := by rw [Nat.pow_succ]; omega
    have hm : (d + 1) * (l.length + 70) = d * (l.length + 70) + (l.length + 70) := Nat.succ_mul _ _
    exact ref_inner l hl (word (memI l) n) n (by omega) (by omega) l.length 0 (by omega) (by omega) (fun j hj => by omega) k _ (by omega) (fun k' hk' => ih (n + 1) (by omega) (by omega) k' (by omega))
theorem ref_of_f (l : List Int) (hl : l.length ≤ 9223372036854775807) {k : Nat} (hk : 64 * (l.length + 70) < k) : watersmeetref01_Of.f k l = some ((ofs l : Nat) : Int) :=
  ref_outer l hl 64 0 (by omega) (by omega) k (by omega)
end Go.Proofs.Ytjjhdfpdoopedaa.RefOfGuess
