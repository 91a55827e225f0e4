/- Plain facts: a rune's bytes tell the rune. -/
import Derived.Test.YtenigafbbdjagaaYK2
namespace Go.Proofs.Ytenigafbbdjagaa.AL
open Go Go.Proofs
set_option linter.unusedVariables false
set_option maxRecDepth 8000
theorem get_app (a l : List UInt8) (k : Nat) (h : k < l.length) : ((ByteArray.mk (a ++ l).toArray).get! (a.length + k)).toNat = l[k].toNat := by
  have h1 : a.length + k < (a ++ l).toArray.size := by simp; omega
  have e : (ByteArray.mk (a ++ l).toArray).get! (a.length + k) = l[k] := by
    show (a ++ l).toArray[a.length + k]! = _
    rw [getElem!_pos (a ++ l).toArray (a.length + k) h1]
    simp [List.getElem_append_right]
  rw [e]
theorem size_app (a l : List UInt8) : (ByteArray.mk (a ++ l).toArray).size = a.length + l.length := by
  show (a ++ l).toArray.size = _
  simp
theorem ofNat_lt {n : Nat} (h : n < 256) : (UInt8.ofNat n).toNat = n := by simp; omega
def decX (i n b0 b1 b2 b3 : Nat) : Nat × Nat :=
  if b0 < 0x80 then (b0, 1)
  else if b0 / 32 == 6 && (i + 1 < n && b1 / 64 == 2) then
    if (b0 % 32) * 64 + b1 % 64 ≥ 0x80 then ((b0 % 32) * 64 + b1 % 64, 2) else (Utf8.runeError, 1)
  else if b0 / 16 == 14 && (i + 1 < n && b1 / 64 == 2) && (i + 2 < n && b2 / 64 == 2) then
    if (b0 % 16) * 4096 + (b1 % 64) * 64 + b2 % 64 ≥ 0x800 && Utf8.valid (((b0 % 16) * 4096 + (b1 % 64) * 64 + b2 % 64 : Nat) : Int) then ((b0 % 16) * 4096 + (b1 % 64) * 64 + b2 % 64, 3) else (Utf8.runeError, 1)
  else if b0 / 8 == 30 && (i + 1 < n && b1 / 64 == 2) && (i + 2 < n && b2 / 64 == 2) && (i + 3 < n && b3 / 64 == 2) then
    if (b0 % 8) * 262144 + (b1 % 64) * 4096 + (b2 % 64) * 64 + b3 % 64 ≥ 0x10000 && Utf8.valid (((b0 % 8) * 262144 + (b1 % 64) * 4096 + (b2 % 64) * 64 + b3 % 64 : Nat) : Int) then ((b0 % 8) * 262144 + (b1 % 64) * 4096 + (b2 % 64) * 64 + b3 % 64, 4) else (Utf8.runeError, 1)
  else (Utf8.runeError, 1)
theorem decode_X (s : ByteArray) (i : Nat) : Utf8.decode s i = decX i s.size (s.get! (i + 0)).toNat (s.get! (i + 1)).toNat (s.get! (i + 2)).toNat (s.get! (i + 3)).toNat := rfl
theorem x1 {i n b0 b1 b2 b3 c : Nat} (h : c < 0x80) (e0 : b0 = c) : decX i n b0 b1 b2 b3 = (c, 1) := by
  subst e0; unfold decX; rw [if_pos h]
theorem x2 {i n b0 b1 b2 b3 c : Nat} (h1 : ¬ c < 0x80) (h2 : c < 0x800) (hn : i + 1 < n) (e0 : b0 = 0xC0 + c / 64) (e1 : b1 = 0x80 + c % 64) : decX i n b0 b1 b2 b3 = (c, 2) := by
  have hc : (b0 % 32) * 64 + b1 % 64 = c := by omega
  have q1 : (b0 / 32 == 6) = true := by rw [beq_iff_eq]; omega
  have q2 : (b1 / 64 == 2) = true := by rw [beq_iff_eq]; omega
  unfold decX
  rw [if_neg (by omega), q1, q2, decide_eq_true hn, hc]
  simp only [Bool.and_self, if_true]
  rw [if_pos (by omega)]
theorem x3 {i n b0 b1 b2 b3 c : Nat} (h1 : ¬ c < 0x800) (h2 : c < 0x10000) (hv : Utf8.valid (c : Int) = true) (hn : i + 2 < n) (e0 : b0 = 0xE0 + c / 4096) (e1 : b1 = 0x80 + c / 64 % 64) (e2 : b2 = 0x80 + c % 64) : decX i n b0 b1 b2 b3 = (c, 3) := by
  have hc : (b0 % 16) * 4096 + (b1 % 64) * 64 + b2 % 64 = c := by omega
  have q0 : (b0 / 32 == 6) = false := by rw [beq_eq_false_iff_ne]; omega
  have q1 : (b0 / 16 == 14) = true := by rw [beq_iff_eq]; omega
  have q2 : (b1 / 64 == 2) = true := by rw [beq_iff_eq]; omega
  have q3 : (b2 / 64 == 2) = true := by rw [beq_iff_eq]; omega
  have d1 : decide (i + 1 < n) = true := by simp; omega
  have d2 : decide (c ≥ 0x800) = true := by simp; omega
  unfold decX
  rw [if_neg (by omega), q0, q1, q2, q3, d1, decide_eq_true hn, hc, hv, d2]
  simp only [Bool.and_self, Bool.false_and, if_true, Bool.false_eq_true, if_false]
theorem x4 {i n b0 b1 b2 b3 c : Nat} (h1 : ¬ c < 0x10000) (h2 : c ≤ 1114111) (hv : Utf8.valid (c : Int) = true) (hn : i + 3 < n) (e0 : b0 = 0xF0 + c / 262144) (e1 : b1 = 0x80 + c / 4096 % 64) (e2 : b2 = 0x80 + c / 64 % 64) (e3 : b3 = 0x80 + c % 64) : decX i n b0 b1 b2 b3 = (c, 4) := by
  have hc : (b0 % 8) * 262144 + (b1 % 64) * 4096 + (b2 % 64) * 64 + b3 % 64 = c := by omega
  have q0 : (b0 / 32 == 6) = false := by rw [beq_eq_false_iff_ne]; omega
  have q1 : (b0 / 16 == 14) = false := by rw [beq_eq_false_iff_ne]; omega
  have q4 : (b0 / 8 == 30) = true := by rw [beq_iff_eq]; omega
  have q2 : (b1 / 64 == 2) = true := by rw [beq_iff_eq]; omega
  have q3 : (b2 / 64 == 2) = true := by rw [beq_iff_eq]; omega
  have q5 : (b3 / 64 == 2) = true := by rw [beq_iff_eq]; omega
  have d1 : decide (i + 1 < n) = true := by simp; omega
  have d2 : decide (i + 2 < n) = true := by simp; omega
  have d3 : decide (c ≥ 0x10000) = true := by simp; omega
  unfold decX
  rw [if_neg (by omega), q0, q1, q2, q3, q4, q5, d1, d2, decide_eq_true hn, hc, hv, d3]
  simp only [Bool.and_self, Bool.false_and, if_true, Bool.false_eq_true, if_false]
theorem decB_enc (a b : List UInt8) {r : Int} (hv : Utf8.valid r = true) : decB (a ++ (encB r ++ b)) a.length = (r.toNat, (encB r).length) := by
  obtain ⟨c, hc⟩ : ∃ c, r.toNat = c := ⟨_, rfl⟩
  have hvr : Utf8.valid (c : Int) = true := by
    have h0 : 0 ≤ r := by
      unfold Utf8.valid at hv
      simp only [Bool.or_eq_true, Bool.and_eq_true, decide_eq_true_eq] at hv
      omega
    rw [← hc, Int.toNat_of_nonneg h0]; exact hv
  have hmax : c ≤ 1114111 := by
    unfold Utf8.valid at hvr
    simp only [Bool.or_eq_true, Bool.and_eq_true, decide_eq_true_eq] at hvr
    omega
  have hE : encB r = if c < 0x80 then [UInt8.ofNat c] else if c < 0x800 then [UInt8.ofNat (0xC0 + c / 64), UInt8.ofNat (0x80 + c % 64)]
      else if c < 0x10000 then [UInt8.ofNat (0xE0 + c / 4096), UInt8.ofNat (0x80 + c / 64 % 64), UInt8.ofNat (0x80 + c % 64)]
      else [UInt8.ofNat (0xF0 + c / 262144), UInt8.ofNat (0x80 + c / 4096 % 64), UInt8.ofNat (0x80 + c / 64 % 64), UInt8.ofNat (0x80 + c % 64)] := by
    unfold encB Utf8.encode
    simp only [hv, if_true, hc]
    split
    · rfl
    · split
      · rfl
      · split <;> rfl
  rw [hE, hc]
  unfold decB
  rw [decode_X, size_app]
  have key : ∀ (l : List UInt8) (k : Nat) (h : k < (l ++ b).length), ((ByteArray.mk (a ++ (l ++ b)).toArray).get! (a.length + k)).toNat = (l ++ b)[k].toNat := fun l k h => get_app a (l ++ b) k h
  by_cases h1 : c < 0x80
  · rw [if_pos h1]
    exact x1 h1 ((key _ 0 (by simp)).trans (ofNat_lt (by omega)))
  rw [if_neg h1]
  by_cases h2 : c < 0x800
  · rw [if_pos h2]
    exact x2 h1 h2 (by simp) ((key _ 0 (by simp)).trans (ofNat_lt (by omega))) ((key _ 1 (by simp)).trans (ofNat_lt (by omega)))
  rw [if_neg h2]
  by_cases h3 : c < 0x10000
  · rw [if_pos h3]
    exact x3 h2 h3 hvr (by simp) ((key _ 0 (by simp)).trans (ofNat_lt (by omega))) ((key _ 1 (by simp)).trans (ofNat_lt (by omega))) ((key _ 2 (by simp)).trans (ofNat_lt (by omega)))
  rw [if_neg h3]
  exact x4 h3 hmax hvr (by simp) ((key _ 0 (by simp)).trans (ofNat_lt (by omega))) ((key _ 1 (by simp)).trans (ofNat_lt (by omega))) ((key _ 2 (by simp)).trans (ofNat_lt (by omega))) ((key _ 3 (by simp)).trans (ofNat_lt (by omega)))
/-- Runes told of their own bytes. -/
theorem runes_enc_at : ∀ (rs : List Int) (a : List UInt8), (∀ r ∈ rs, Utf8.valid r = true) → runesG (a ++ encL rs) a.length = rs
  | [], a, _ => by
    rw [show encL [] = [] from rfl, List.append_nil]
    exact runesG_end (by omega)
  | r :: rs, a, h => by
    have hv := h r List.mem_cons_self
    have e : encL (r :: rs) = encB r ++ encL rs := rfl
    have hd := decB_enc a (encL rs) hv
    have hne : 0 < (encB r).length := by have := decB_w (a ++ (encB r ++ encL rs)) a.length; rw [hd] at this; exact this
    rw [e, runesG_step (by simp; omega), hd]
    have ih := runes_enc_at rs (a ++ encB r) (fun x hx => h x (List.mem_cons_of_mem _ hx))
    rw [List.length_append, List.append_assoc] at ih
    simp only
    rw [ih]
    have h0 : 0 ≤ r := by
      unfold Utf8.valid at hv
      simp only [Bool.or_eq_true, Bool.and_eq_true, decide_eq_true_eq] at hv
      omega
    rw [Int.toNat_of_nonneg h0]
theorem runes_enc {rs : List Int} (h : ∀ r ∈ rs, Utf8.valid r = true) : runesF (encL rs) = rs := runes_enc_at rs [] h
end Go.Proofs.Ytenigafbbdjagaa.AL
