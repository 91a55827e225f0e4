/- Plain facts on the parts of a set: told one after the other. -/
import Derived.Laws.BitsAllLaws
import Derived.Laws.BitsLemmas
import Derived.Laws.Bits64
namespace Go.Proofs.YtceleegbbclajaaDoor.AL
open Go
set_option linter.unusedVariables false
/-- Digits, low ones first. -/
def valB : List Bool → Nat
  | [] => 0
  | x :: b => x.toNat + 2 * valB b
def cntB : List Bool → Nat
  | [] => 0
  | x :: b => x.toNat + cntB b
/-- The n-th part. -/
def prt : List Bool → Nat → Nat
  | [], _ => 0
  | false :: b, n => 2 * prt b n
  | true :: b, n => n % 2 + 2 * prt b (n / 2)
theorem and2 (x y a c : Nat) (ha : a < 2) (hc : c < 2) : (2 * x + a) &&& (2 * y + c) = 2 * (x &&& y) + (a &&& c) := by
  apply Nat.eq_of_testBit_eq
  intro j
  have hac : a &&& c < 2 := Nat.lt_of_le_of_lt Nat.and_le_left ha
  cases j with
  | zero =>
    rw [Nat.testBit_and]
    simp only [Nat.testBit_zero]
    have h1 : (2 * x + a) % 2 = a := by omega
    have h2 : (2 * y + c) % 2 = c := by omega
    have h3 : (2 * (x &&& y) + (a &&& c)) % 2 = (a &&& c) := by omega
    rw [h1, h2, h3]
    have ea : a = 0 ∨ a = 1 := by omega
    have ec : c = 0 ∨ c = 1 := by omega
    rcases ea with rfl | rfl <;> rcases ec with rfl | rfl <;> decide
  | succ j =>
    rw [Nat.testBit_and]
    simp only [Nat.testBit_succ]
    have h1 : (2 * x + a) / 2 = x := by omega
    have h2 : (2 * y + c) / 2 = y := by omega
    have h3 : (2 * (x &&& y) + (a &&& c)) / 2 = (x &&& y) := by omega
    rw [h1, h2, h3, Nat.testBit_and]
theorem valB_lt : ∀ b : List Bool, valB b < 2 ^ b.length
  | [] => by simp [valB]
  | x :: b => by
    have := valB_lt b
    have hx : x.toNat ≤ 1 := Bool.toNat_le x
    simp only [valB, List.length_cons, Nat.pow_succ]; omega
theorem prt_le : ∀ (b : List Bool) (n : Nat), prt b n ≤ valB b
  | [], _ => Nat.le_refl _
  | false :: b, n => by have := prt_le b n; simp only [prt, valB, Bool.toNat_false]; omega
  | true :: b, n => by have := prt_le b (n / 2); simp only [prt, valB, Bool.toNat_true]; omega
theorem prt_zero : ∀ b : List Bool, prt b 0 = 0
  | [] => rfl
  | false :: b => by simp only [prt, prt_zero b]
  | true :: b => by simp only [prt, Nat.zero_mod, Nat.zero_div, prt_zero b]
theorem prt_and : ∀ (b : List Bool) (n : Nat), prt b n &&& valB b = prt b n
  | [], _ => by simp [prt]
  | false :: b, n => by
    have h := and2 (prt b n) (valB b) 0 0 (by omega) (by omega)
    have := prt_and b n
    simp only [Nat.add_zero, Nat.and_zero] at h
    simp only [prt, valB, Bool.toNat_false, Nat.zero_add]
    rw [h, this]
  | true :: b, n => by
    have h := and2 (prt b (n / 2)) (valB b) (n % 2) 1 (by omega) (by omega)
    have := prt_and b (n / 2)
    have h1 : (n % 2) &&& 1 = n % 2 := by rw [Nat.and_one_is_mod]; omega
    simp only [prt, valB, Bool.toNat_true]
    rw [Nat.add_comm (n % 2), Nat.add_comm 1, h, this, h1]
/-- What stands outside. -/
theorem prt_comp : ∀ (b : List Bool) (n : Nat), ((2 ^ b.length - 1 - prt b n) &&& valB b) + prt b n = valB b
  | [], _ => by simp [prt, valB]
  | false :: b, n => by
    have ih := prt_comp b n
    have hl := prt_le b n
    have hv := valB_lt b
    have h := and2 (2 ^ b.length - 1 - prt b n) (valB b) 1 0 (by omega) (by omega)
    have e : 2 ^ (false :: b).length - 1 - prt (false :: b) n = 2 * (2 ^ b.length - 1 - prt b n) + 1 := by
      simp only [prt, List.length_cons, Nat.pow_succ]; omega
    rw [e]
    simp only [valB, Bool.toNat_false, prt, Nat.add_zero, Nat.and_zero, Nat.zero_add] at h ⊢
    rw [h]; omega
  | true :: b, n => by
    have ih := prt_comp b (n / 2)
    have hl := prt_le b (n / 2)
    have hv := valB_lt b
    have h := and2 (2 ^ b.length - 1 - prt b (n / 2)) (valB b) (1 - n % 2) 1 (by omega) (by omega)
    have h1 : (1 - n % 2) &&& 1 = 1 - n % 2 := by rw [Nat.and_one_is_mod]; omega
    have e : 2 ^ (true :: b).length - 1 - prt (true :: b) n = 2 * (2 ^ b.length - 1 - prt b (n / 2)) + (1 - n % 2) := by
      simp only [prt, List.length_cons, Nat.pow_succ]; omega
    rw [e]
    simp only [valB, Bool.toNat_true, prt]
    rw [Nat.add_comm 1, h, h1]; omega
/-- The part ahead of one, seen from the other side. -/
theorem prt_down : ∀ (b : List Bool) (m : Nat), 1 ≤ m → m < 2 ^ cntB b → ((2 ^ b.length - prt b m) &&& valB b) + prt b (m - 1) = valB b
  | [], m, h1, h2 => by simp [cntB] at h2; omega
  | false :: b, m, h1, h2 => by
    have ih := prt_down b m h1 (by simpa [cntB] using h2)
    have hl := prt_le b m
    have hv := valB_lt b
    have h := and2 (2 ^ b.length - prt b m) (valB b) 0 0 (by omega) (by omega)
    have e : 2 ^ (false :: b).length - prt (false :: b) m = 2 * (2 ^ b.length - prt b m) := by
      simp only [prt, List.length_cons, Nat.pow_succ]; omega
    rw [e]
    simp only [valB, Bool.toNat_false, prt, Nat.add_zero, Nat.and_zero, Nat.zero_add] at h ⊢
    rw [h]; omega
  | true :: b, m, h1, h2 => by
    have h2' : m < 2 * 2 ^ cntB b := by simpa [cntB, Nat.pow_add] using h2
    have hl := prt_le b (m / 2)
    have hv := valB_lt b
    by_cases hr : m % 2 = 1
    · have hc := prt_comp b (m / 2)
      have h := and2 (2 ^ b.length - 1 - prt b (m / 2)) (valB b) 1 1 (by omega) (by omega)
      have e : 2 ^ (true :: b).length - prt (true :: b) m = 2 * (2 ^ b.length - 1 - prt b (m / 2)) + 1 := by
        simp only [prt, List.length_cons, Nat.pow_succ]; omega
      have e1 : (m - 1) % 2 = 0 := by omega
      have e2 : (m - 1) / 2 = m / 2 := by omega
      have e3 : (1 : Nat) &&& 1 = 1 := rfl
      rw [e]
      simp only [valB, Bool.toNat_true, prt, e1, e2]
      rw [Nat.add_comm 1 (2 * valB b), h, e3]; omega
    · have ih := prt_down b (m / 2) (by omega) (by omega)
      have h := and2 (2 ^ b.length - prt b (m / 2)) (valB b) 0 1 (by omega) (by omega)
      have e : 2 ^ (true :: b).length - prt (true :: b) m = 2 * (2 ^ b.length - prt b (m / 2)) + 0 := by
        simp only [prt, List.length_cons, Nat.pow_succ]; omega
      have e1 : (m - 1) % 2 = 1 := by omega
      have e2 : (m - 1) / 2 = m / 2 - 1 := by omega
      have e3 : (0 : Nat) &&& 1 = 0 := rfl
      rw [e]
      simp only [valB, Bool.toNat_true, prt, e1, e2]
      rw [Nat.add_comm 1 (2 * valB b), h, e3]; omega
theorem prt_add : ∀ (b : List Bool) (n : Nat), n < 2 ^ cntB b → prt b n + prt b (2 ^ cntB b - 1 - n) = valB b
  | [], _, _ => rfl
  | false :: b, n, h => by
    have ih := prt_add b n (by simpa [cntB] using h)
    simp only [prt, valB, cntB, Bool.toNat_false, Nat.zero_add] at ih ⊢
    omega
  | true :: b, n, h => by
    have h' : n < 2 * 2 ^ cntB b := by simpa [cntB, Nat.pow_add] using h
    have ih := prt_add b (n / 2) (by omega)
    have e1 : (2 ^ cntB (true :: b) - 1 - n) % 2 = 1 - n % 2 := by
      simp only [cntB, Bool.toNat_true, Nat.pow_add]; omega
    have e2 : (2 ^ cntB (true :: b) - 1 - n) / 2 = 2 ^ cntB b - 1 - n / 2 := by
      simp only [cntB, Bool.toNat_true, Nat.pow_add]; omega
    simp only [prt, valB, Bool.toNat_true, e1, e2]
    omega
theorem prt_last (b : List Bool) : prt b (2 ^ cntB b - 1) = valB b := by
  have h := prt_add b (2 ^ cntB b - 1) (by have : 0 < 2 ^ cntB b := Nat.pos_of_ne_zero (by simp); omega)
  rw [Nat.sub_self, prt_zero, Nat.add_zero] at h
  exact h
/-- The next part. -/
theorem prt_next (b : List Bool) (n : Nat) (h : n + 1 < 2 ^ cntB b) : (2 ^ b.length - (valB b - prt b n)) &&& valB b = prt b (n + 1) := by
  have h1 := prt_add b n (by omega)
  have h2 := prt_add b (n + 1) h
  have h3 := prt_down b (2 ^ cntB b - 1 - n) (by omega) (by omega)
  rw [show valB b - prt b n = prt b (2 ^ cntB b - 1 - n) by omega]
  rw [show 2 ^ cntB b - 1 - n - 1 = 2 ^ cntB b - 1 - (n + 1) by omega] at h3
  omega
theorem prt_mono : ∀ (b : List Bool) (n : Nat), n + 1 < 2 ^ cntB b → prt b n < prt b (n + 1)
  | [], n, h => by simp [cntB] at h
  | false :: b, n, h => by
    have := prt_mono b n (by simpa [cntB] using h)
    simp only [prt]; omega
  | true :: b, n, h => by
    have h' : n + 1 < 2 * 2 ^ cntB b := by simpa [cntB, Nat.pow_add] using h
    simp only [prt]
    by_cases hr : n % 2 = 1
    · have := prt_mono b (n / 2) (by omega)
      rw [show (n + 1) / 2 = n / 2 + 1 by omega]; omega
    · rw [show (n + 1) / 2 = n / 2 by omega]; omega
theorem prt_lt {b : List Bool} {n m : Nat} (h : n < m) (hm : m < 2 ^ cntB b) : prt b n < prt b m := by
  induction m with
  | zero => omega
  | succ m ih =>
    have := prt_mono b m hm
    by_cases e : n = m
    · subst e; exact this
    · exact Nat.lt_trans (ih (by omega) (by omega)) this
/-! ### Digits of a word -/
def digs (s w : Nat) : List Bool := (List.range w).map s.testBit
theorem digs_succ (s w : Nat) : digs s (w + 1) = s.testBit 0 :: digs (s / 2) w := by
  unfold digs
  rw [List.range_succ_eq_map, List.map_cons, List.map_map]
  congr 1
  apply List.map_congr_left
  intro i _
  simp only [Function.comp, Nat.succ_eq_add_one, Nat.testBit_succ]
theorem valB_digs : ∀ (w s : Nat), valB (digs s w) = s % 2 ^ w
  | 0, s => by simp [digs, valB, Nat.mod_one]
  | w + 1, s => by
    rw [digs_succ, valB, valB_digs w (s / 2), Nat.testBit_zero]
    have h1 : s % 2 ^ (w + 1) = s % 2 + 2 * (s / 2 % 2 ^ w) := by
      rw [Nat.pow_succ, Nat.mul_comm, Nat.mod_mul]
    rw [h1]
    have h2 : s % 2 = 0 ∨ s % 2 = 1 := by omega
    rcases h2 with h | h <;> simp [h]
theorem digs_len (s w : Nat) : (digs s w).length = w := by simp [digs]
theorem cntB_map (f : Nat → Bool) : ∀ l : List Nat, cntB (l.map f) = (l.filter f).length
  | [] => rfl
  | x :: l => by
    rw [List.map_cons, cntB, cntB_map f l, List.filter_cons]
    cases f x <;> simp
    omega
/-- The sum of some of the powers. -/
def sumL : List Nat → Nat → Nat
  | [], _ => 0
  | i :: l, n => (if n % 2 = 1 then 2 ^ i else 0) + sumL l (n / 2)
theorem sumL_prt (s : Nat) : ∀ (w i n : Nat), sumL ((List.range' i w).filter s.testBit) n = 2 ^ i * prt ((List.range' i w).map s.testBit) n
  | 0, i, n => by simp [sumL, prt]
  | w + 1, i, n => by
    rw [List.range'_succ, List.map_cons, List.filter_cons]
    cases h : s.testBit i
    · simp only [Bool.false_eq_true, if_false, prt]
      rw [sumL_prt s w (i + 1) n, Nat.pow_succ, Nat.mul_assoc]
    · simp only [if_true, prt, sumL]
      rw [sumL_prt s w (i + 1) (n / 2), Nat.pow_succ, Nat.mul_add, Nat.mul_assoc]
      congr 1
      have h2 : n % 2 = 0 ∨ n % 2 = 1 := by omega
      rcases h2 with h | h <;> simp [h]
theorem sumL_membs (s n : Nat) : sumL ((List.range 64).filter s.testBit) n = prt (digs s 64) n := by
  have := sumL_prt s 64 0 n
  rw [Nat.pow_zero, Nat.one_mul] at this
  unfold digs
  rw [List.range_eq_range']; exact this
theorem sumL_le : ∀ (l : List Nat) (n : Nat) (k : Nat), sumL (l.drop k) (n / 2 ^ k) ≤ sumL l n
  | l, n, 0 => by simp
  | [], n, k + 1 => by simp [sumL]
  | i :: l, n, k + 1 => by
    have := sumL_le l (n / 2) k
    rw [List.drop_succ_cons, sumL, Nat.pow_succ, Nat.mul_comm, ← Nat.div_div_eq_div_mul]
    omega
theorem sumL_step {l : List Nat} {k : Nat} (h : k < l.length) (n : Nat) : sumL (l.drop k) (n / 2 ^ k) = (if n.testBit k = true then 2 ^ l[k] else 0) + sumL (l.drop (k + 1)) (n / 2 ^ (k + 1)) := by
  rw [List.drop_eq_getElem_cons h, sumL, Nat.pow_succ, ← Nat.div_div_eq_div_mul]
  congr 1
  rw [Nat.testBit_eq_decide_div_mod_eq]
  simp
end Go.Proofs.YtceleegbbclajaaDoor.AL
