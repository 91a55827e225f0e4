/- Plain facts: a value's text and back. -/
import Derived.Test.YtenigafbbdjagaaDoorYV5
namespace Go.Proofs.YtenigafbbdjagaaDoor.AL
open Go Go.Proofs
set_option linter.unusedVariables false
set_option maxRecDepth 4000
theorem dig_to {u : Nat} (h : u < 10) : (dig u).toNat = 48 + u := by have := dig_nat h; omega
theorem dig_of {b : UInt8} (h : digB b = true) : dig (b.toNat - 48) = b := by
  simp only [digB, Bool.and_eq_true, decide_eq_true_eq] at h
  apply UInt8.toNat.inj
  rw [dig_to (by omega)]; omega
theorem digB_dig {u : Nat} (h : u < 10) : digB (dig u) = true := by
  simp only [digB, Bool.and_eq_true, decide_eq_true_eq]
  rw [dig_to h]; omega
theorem dec_ne (u : Nat) : Lib.decDigits u ≠ [] := by
  by_cases h : u < 10
  · rw [dec_small h]; simp
  · rw [dec_big h]; simp
theorem dec_all (u : Nat) : (Lib.decDigits u).all digB = true := by
  induction u using Nat.strongRecOn with
  | _ u ih =>
    by_cases h : u < 10
    · rw [dec_small h]; simp [digB_dig h]
    · rw [dec_big h, List.all_append, ih (u / 10) (by omega)]
      simp [digB_dig (Nat.mod_lt u (by omega : 0 < 10))]
theorem dec_num (u : Nat) : numA 0 (Lib.decDigits u) = u := by
  induction u using Nat.strongRecOn with
  | _ u ih =>
    by_cases h : u < 10
    · rw [dec_small h]; show 0 * 10 + ((dig u).toNat - 48) = u; rw [dig_to h]; omega
    · rw [dec_big h, numA_snoc, ih (u / 10) (by omega), dig_to (Nat.mod_lt u (by omega))]; omega
theorem dec_head (u : Nat) (h : 0 < u) : ∃ c r, Lib.decDigits u = c :: r ∧ c.toNat ≠ 48 := by
  induction u using Nat.strongRecOn with
  | _ u ih =>
    by_cases h1 : u < 10
    · exact ⟨dig u, [], dec_small h1, by rw [dig_to h1]; omega⟩
    · obtain ⟨c, r, e, hc⟩ := ih (u / 10) (by omega) (by omega)
      exact ⟨c, r ++ [dig (u % 10)], by rw [dec_big h1, e]; rfl, hc⟩
/-- Behind digits that begin with no 0 stand the digits of the number that they spell. -/
theorem num_pos : ∀ (l : List UInt8) (a : Nat), 0 < a → 0 < numA a l
  | l, a, h => Nat.lt_of_lt_of_le h (numA_le l a)
theorem dec_back : ∀ (n : Nat) (l : List UInt8), l.length = n → l.all digB = true → (∀ c r, l = c :: r → c.toNat ≠ 48 ∨ r = []) → l ≠ [] → Lib.decDigits (numA 0 l) = l := by
  intro n
  induction n with
  | zero => intro l hl _ _ hne; exact absurd (List.eq_nil_of_length_eq_zero hl) hne
  | succ n ih =>
    intro l hl hall hh hne
    obtain ⟨l', b, rfl⟩ : ∃ l' b, l = l' ++ [b] := ⟨l.dropLast, l.getLast hne, (List.dropLast_concat_getLast hne).symm⟩
    rw [List.all_append, Bool.and_eq_true] at hall
    have hb : digB b = true := by simpa using hall.2
    have hb2 := hb
    simp only [digB, Bool.and_eq_true, decide_eq_true_eq] at hb2
    rw [numA_snoc]
    cases l' with
    | nil =>
      show Lib.decDigits (0 * 10 + (b.toNat - 48)) = [b]
      rw [show 0 * 10 + (b.toNat - 48) = b.toNat - 48 by omega, dec_small (by omega), dig_of hb]
    | cons c r =>
      have hc : c.toNat ≠ 48 := by
        rcases hh c (r ++ [b]) rfl with h | h
        · exact h
        · exact absurd h (by simp)
      have hi := ih (c :: r) (by simp at hl; simp; omega) hall.1 (fun c' r' e => .inl (by cases e; exact hc)) (by simp)
      have hcd : digB c = true := by have := hall.1; rw [List.all_cons, Bool.and_eq_true] at this; exact this.1
      simp only [digB, Bool.and_eq_true, decide_eq_true_eq] at hcd
      have hpos : 0 < numA 0 (c :: r) := by
        show 0 < numA (0 * 10 + (c.toNat - 48)) r
        exact num_pos _ _ (by omega)
      generalize numA 0 (c :: r) = N at hi hpos
      rw [dec_big (by omega), show (N * 10 + (b.toNat - 48)) / 10 = N by omega, show (N * 10 + (b.toNat - 48)) % 10 = b.toNat - 48 by omega, hi, dig_of hb]
theorem head_ne_null {s r : List UInt8} {c : UInt8} (h : s = c :: r) (hc : c.toNat < 200) : s ≠ nullS := by
  rintro rfl
  unfold nullS at h
  rw [List.cons.injEq] at h
  rw [← h.1] at hc
  simp at hc
theorem par_itoa (n : Int) (h0 : -9223372036854775808 ≤ n) (h1 : n ≤ 9223372036854775807) : parF (Lib.itoa n) = (⟨false, n⟩, 0) := by
  by_cases hn : n < 0
  · have hi : Lib.itoa n = 45 :: Lib.decDigits n.natAbs := by unfold Lib.itoa; rw [if_pos hn]
    obtain ⟨hm, hb⟩ := body_m hi (dec_ne _)
    have h0' := head_ne_null hi (by simp)
    obtain ⟨c, r, he, hc⟩ := dec_head n.natAbs (by omega)
    have hd := digs_of (s := Lib.itoa n) (by rw [hb]; exact dec_all _) (hb.trans he)
    have hc2 : decide ((c.toNat : Int) = 48) = false := by simp; omega
    rw [hc2] at hd
    rw [par_m h0' (by rw [hd]; rfl) hm, hb, dec_num, if_pos (by omega)]
    have : -(n.natAbs : Int) = n := by omega
    rw [this]
  · have hi : Lib.itoa n = Lib.decDigits n.toNat := by unfold Lib.itoa; rw [if_neg hn]
    have hall := dec_all n.toNat
    obtain ⟨c, r, he⟩ : ∃ c r, Lib.decDigits n.toNat = c :: r := by
      cases h : Lib.decDigits n.toNat with
      | nil => exact absurd h (dec_ne _)
      | cons c r => exact ⟨c, r, rfl⟩
    have hcd : digB c = true := by rw [he, List.all_cons, Bool.and_eq_true] at hall; exact hall.1
    simp only [digB, Bool.and_eq_true, decide_eq_true_eq] at hcd
    have h0' := head_ne_null (hi.trans he) (by omega)
    have hm : minusF (Lib.itoa n) = false := by
      rw [hi, he]
      simp only [minusF, Bool.and_eq_false_iff, decide_eq_false_iff_not, List.head?_cons]
      left; apply decide_eq_false; intro h; injection h with h; subst h; simp at hcd
    have hb := body_p hm
    have hd := digs_of (s := Lib.itoa n) (by rw [hb, hi]; exact hall) (hb.trans (hi.trans he))
    have hd1 : digsF (Lib.itoa n) = true := by
      rw [hd]
      by_cases hz : n = 0
      · subst hz
        have : (Lib.itoa 0).length = 1 := by rw [hi, dec_small (by simp)]; rfl
        rw [this]; simp
      · obtain ⟨c', r', he', hc'⟩ := dec_head n.toNat (by omega)
        rw [he] at he'
        rw [List.cons.injEq] at he'
        rw [he'.1]
        have hc2 : decide ((c'.toNat : Int) = 48) = false := by simp; omega
        rw [hc2]; rfl
    rw [par_p h0' hd1 hm, hb, hi, dec_num, if_pos (by omega)]
    have : (n.toNat : Int) = n := by omega
    rw [this]
theorem par_null : parF nullS = (⟨true, 0⟩, 0) := by unfold parF; rw [if_pos rfl]
theorem par_prt (v : Val) (h0 : -9223372036854775808 ≤ v.n) (h1 : v.n ≤ 9223372036854775807) : parF (prtF v) = (⟨v.null, if v.null = true then 0 else v.n⟩, 0) := by
  unfold prtF
  by_cases h : v.null = true
  · rw [if_pos h, if_pos h, par_null, h]
  · rw [if_neg h, if_neg h, par_itoa _ h0 h1]
    simp only [Bool.not_eq_true] at h
    rw [h]
/-- A text that is some value's is the one that is written. -/
theorem par_back (s : List UInt8) : ((parF s).2 ≠ 0 ∧ (parF s).1 = ⟨false, 0⟩) ∨ ((parF s).2 = 0 ∧ prtF (parF s).1 = s ∧ -9223372036854775808 ≤ (parF s).1.n ∧ (parF s).1.n ≤ 9223372036854775807) := by
  by_cases h0 : s = nullS
  · subst h0
    right
    rw [par_null]
    exact ⟨rfl, rfl, by decide, by decide⟩
  cases hd : digsF s
  · left
    rw [par_no h0 hd]
    exact ⟨by simp, rfl⟩
  have hne := body_ne hd
  have hall : (bodyF s).all digB = true := by unfold digsF at hd; rw [Bool.and_eq_true] at hd; exact hd.1
  obtain ⟨c, r, hcr⟩ : ∃ c r, bodyF s = c :: r := by
    cases h : bodyF s with
    | nil => exact absurd h hne
    | cons c r => exact ⟨c, r, rfl⟩
  have hd2 := digs_of hall hcr
  rw [hd] at hd2
  have hz : c.toNat ≠ 48 ∨ s.length ≤ 1 := by
    by_cases hc : c.toNat = 48
    · right
      have : decide ((c.toNat : Int) = 48) = true := by simp; omega
      rw [this, Bool.true_and] at hd2
      have h3 : decide (1 < (s.length : Int)) = false := by
        cases h : decide (1 < (s.length : Int))
        · rfl
        · rw [h] at hd2; exact absurd hd2 (by decide)
      have := of_decide_eq_false h3
      omega
    · exact .inl hc
  have hback := dec_back _ (bodyF s) rfl hall (fun c' r' e => by
    rw [hcr, List.cons.injEq] at e
    rcases hz with h | h
    · left; rw [← e.1]; exact h
    · right
      have hl : (bodyF s).length ≤ s.length := by
        unfold bodyF
        by_cases hq : minusF s = true
        · rw [if_pos hq, List.length_tail]; omega
        · rw [if_neg hq]; exact Nat.le_refl _
      rw [hcr, List.length_cons] at hl
      rw [← e.2]
      exact List.eq_nil_of_length_eq_zero (by omega)) hne
  cases hm : minusF s
  · have hb := body_p hm
    rw [par_p h0 hd hm]
    by_cases hu : numA 0 (bodyF s) < 9223372036854775808
    · right
      rw [if_pos hu]
      refine ⟨rfl, ?_, by show _ ≤ ((numA 0 (bodyF s) : Nat) : Int); omega, by show ((numA 0 (bodyF s) : Nat) : Int) ≤ _; omega⟩
      show Lib.itoa ((numA 0 (bodyF s) : Nat) : Int) = s
      rw [show Lib.itoa ((numA 0 (bodyF s) : Nat) : Int) = Lib.decDigits (numA 0 (bodyF s)) by unfold Lib.itoa; rw [if_neg (by omega)]; rfl, hback, hb]
    · left
      rw [if_neg hu]
      exact ⟨by simp, rfl⟩
  · have hm' := hm
    simp only [minusF, Bool.and_eq_true, decide_eq_true_eq] at hm'
    obtain ⟨t, hs⟩ : ∃ t, s = 45 :: t := by
      cases s with
      | nil => simp at hm'
      | cons x y => exact ⟨y, by have : x = 45 := by simpa using hm'.1
                                 rw [this]⟩
    have ht : t ≠ [] := by rintro rfl; rw [hs] at hm'; simp at hm'
    have hb := (body_m hs ht).2
    have hc : c.toNat ≠ 48 := by rcases hz with h | h; exact h; omega
    have hpos : 0 < numA 0 (bodyF s) := by
      have hcd : digB c = true := by rw [hcr, List.all_cons, Bool.and_eq_true] at hall; exact hall.1
      simp only [digB, Bool.and_eq_true, decide_eq_true_eq] at hcd
      rw [hcr]
      show 0 < numA (0 * 10 + (c.toNat - 48)) r
      exact num_pos _ _ (by omega)
    rw [par_m h0 hd hm]
    by_cases hu : numA 0 (bodyF s) ≤ 9223372036854775808
    · right
      rw [if_pos hu]
      refine ⟨rfl, ?_, by show _ ≤ -((numA 0 (bodyF s) : Nat) : Int); omega, by show -((numA 0 (bodyF s) : Nat) : Int) ≤ _; omega⟩
      show Lib.itoa (-((numA 0 (bodyF s) : Nat) : Int)) = s
      have : Lib.itoa (-((numA 0 (bodyF s) : Nat) : Int)) = 45 :: Lib.decDigits (numA 0 (bodyF s)) := by
        unfold Lib.itoa; rw [if_pos (by omega)]
        have : (-((numA 0 (bodyF s) : Nat) : Int)).natAbs = numA 0 (bodyF s) := by omega
        rw [this]
      rw [this, hback, hb, ← hs]
    · left
      rw [if_neg hu]
      exact ⟨by simp, rfl⟩
theorem less_trans {a b c : Val} (h1 : lessF a b = true) (h2 : lessF b c = true) : lessF a c = true := by
  obtain ⟨x, p⟩ := a
  obtain ⟨y, q⟩ := b
  obtain ⟨z, r⟩ := c
  cases x <;> cases y <;> cases z <;> simp_all [lessF]
  omega
theorem same_self (a : Val) : sameV a a = true := by unfold sameV; cases a.null <;> simp
end Go.Proofs.YtenigafbbdjagaaDoor.AL
