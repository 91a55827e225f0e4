/- What sat.Mul, sat.Share and the reference's Add, Mul and Share come to. -/
import Derived.Test.YtjjhdfpdoopedaaPGuessx1
import Derived.Test.YtjjhdfpdoopedaaPGuessx1
import Derived.Test.YtjjhdfpdoopedaaPGuessx2
import Derived.Test.YtjjhdfpdoopedaaWd
namespace Go.Proofs.Ytjjhdfpdoopedaa.SatOfGuess
open Go.RowKit Go.Proofs.Ytjjhdfpdoopedaa.PGuess Go.Proofs.YtjjhdfpdoopedaaW.PrintWords Go.Proofs.YtjjhdfpdoopedaaW.PrintLast Go.Proofs.YtjjhdfpdoopedaaW.PrintMore Go.Proofs.Ytjjhdfpdoopedaa.SatMath Go.Proofs.Ytjjhdfpdoopedaa.Wd
set_option linter.unusedVariables false
set_option linter.unusedSimpArgs false

theorem wide_f {a b : Int} (ha : Wd a) (hb : Wd b) : sat_wide.f a b = some (a * b / 18446744073709551616, a * b % 18446744073709551616) := by
  unfold sat_wide.f
  rw [wide_hi ha.1 ha.2 hb.1 hb.2, wide_lo]
theorem mul_f {a b : Int} (ha : Wd a) (hb : Wd b) : sat_Mul.f a b = some (cap (a * b)) := by
  unfold sat_Mul.f
  rw [wide_f ha hb, Option.bind_some]
  have hm := mul_bound ha.1 ha.2 hb.1 hb.2
  generalize a * b = n at *
  unfold cap
  by_cases h : n ≤ 18446744073709551615
  · rw [if_neg (by dsimp only; omega), if_pos h]; congr 1; dsimp only; omega
  · rw [if_pos (by dsimp only; omega), if_neg h]
theorem share_f {a b : Int} (ha : Wd a) (hb : Wd b) : sat_Share.f a b = some (cap (a * b / 65536)) := by
  unfold sat_Share.f
  rw [wide_f ha hb, Option.bind_some]
  have hm := mul_bound ha.1 ha.2 hb.1 hb.2
  generalize a * b = n at *
  dsimp only
  by_cases h : n / 18446744073709551616 ≥ 65536
  · rw [if_pos h]; unfold cap; rw [if_neg (by omega)]
  · rw [if_neg h, share_parts hm.1 hm.2 h]; unfold cap; rw [if_pos (by omega)]
theorem ref_add_f {a b : Int} (ha : Wd a) (hb : Wd b) : watersmeetref02_Add.f a b = some (cap (a + b)) := by
  unfold watersmeetref02_Add.f cap
  obtain ⟨h1, h2⟩ := ha; obtain ⟨h3, h4⟩ := hb
  rw [u64_id (n := 18446744073709551615 - a) (by omega) (by omega)]
  by_cases h : b > 18446744073709551615 - a
  · rw [if_pos h, if_neg (by omega)]
  · rw [if_neg h, if_pos (by omega), u64_id (by omega) (by omega)]
theorem ref_mul_f {a b : Int} (ha : Wd a) (hb : Wd b) : watersmeetref02_Mul.f a b = some (cap (a * b)) := by
  unfold watersmeetref02_Mul.f
  have hm := mul_bound ha.1 ha.2 hb.1 hb.2
  by_cases h0 : a = 0
  · subst h0
    rw [if_pos rfl, Int.zero_mul]; rfl
  · rw [if_neg h0]
    have hp : 0 < a := by have := ha.1; omega
    rw [Int.tdiv_eq_ediv_of_nonneg (by omega), u64_id (n := 18446744073709551615 / a) (Int.ediv_nonneg (by omega) (by omega)) (by have := Int.ediv_le_self (a := 18446744073709551615) a (by omega); omega)]
    by_cases h : b > 18446744073709551615 / a
    · have := (mul_by_div hp hb.1).1 h
      rw [if_pos h]; unfold cap; rw [if_neg (by omega)]
    · have h' : ¬ 18446744073709551615 < a * b := fun e => h ((mul_by_div hp hb.1).2 e)
      rw [if_neg h]; unfold cap; rw [if_pos (by omega), u64_id hm.1 (by omega)]
theorem ref_share_f {a b : Int} (ha : Wd a) (hb : Wd b) : watersmeetref02_Share.f a b = some (cap (a * b / 65536)) := by
  unfold watersmeetref02_Share.f
  obtain ⟨ha0, ha1⟩ := ha; obtain ⟨hb0, hb1⟩ := hb
  rw [Int.tdiv_eq_ediv_of_nonneg ha0, Int.tmod_eq_emod_of_nonneg ha0, Int.tdiv_eq_ediv_of_nonneg hb0, Int.tmod_eq_emod_of_nonneg hb0]
  rw [u64_id (n := a / 65536) (by omega) (by omega), u64_id (n := b / 65536) (by omega) (by omega)]
  have hr : 0 ≤ a % 65536 ∧ a % 65536 ≤ 65535 := by omega
  have hs : 0 ≤ b % 65536 ∧ b % 65536 ≤ 65535 := by omega
  have hq : 0 ≤ a / 65536 ∧ a / 65536 ≤ 281474976710655 := by omega
  have hp : 0 ≤ b / 65536 ∧ b / 65536 ≤ 281474976710655 := by omega
  have eA : a = 65536 * (a / 65536) + a % 65536 := by omega
  have eB : b = 65536 * (b / 65536) + b % 65536 := by omega
  rw [ref_mul_f (a := a / 65536) (b := b) ⟨hq.1, by omega⟩ ⟨hb0, hb1⟩, Option.bind_some, ref_mul_f (a := a % 65536) (b := b / 65536) ⟨hr.1, by omega⟩ ⟨hp.1, by omega⟩, Option.bind_some]
  have hrs : 0 ≤ a % 65536 * (b % 65536) ∧ a % 65536 * (b % 65536) ≤ 65535 * 65535 := ⟨Int.mul_nonneg hr.1 hs.1, Int.mul_le_mul hr.2 hs.2 hs.1 (by omega)⟩
  have hrp : 0 ≤ a % 65536 * (b / 65536) := Int.mul_nonneg hr.1 hp.1
  have hqb : 0 ≤ a / 65536 * b := Int.mul_nonneg hq.1 hb0
  have e : a * b = 65536 * (a / 65536 * b) + 65536 * (a % 65536 * (b / 65536)) + a % 65536 * (b % 65536) := by
    have e1 : a * b = 65536 * (a / 65536 * b) + a % 65536 * b := by
      have : a * b = (65536 * (a / 65536) + a % 65536) * b := by rw [← eA]
      rw [this, Int.add_mul, Int.mul_assoc]
    have e2 : a % 65536 * b = 65536 * (a % 65536 * (b / 65536)) + a % 65536 * (b % 65536) := by
      have : a % 65536 * b = a % 65536 * (65536 * (b / 65536) + b % 65536) := by rw [← eB]
      rw [this, Int.mul_add, Int.mul_left_comm]
    omega
  rw [u64_id (n := a % 65536 * (b % 65536)) (by omega) (by omega)]
  rw [Int.tdiv_eq_ediv_of_nonneg hrs.1]
  rw [e]
  clear e eA eB hr hs hq hp ha0 ha1 hb0 hb1
  generalize a / 65536 * b = x at *
  generalize a % 65536 * (b / 65536) = y at *
  generalize a % 65536 * (b % 65536) = z at *
  rw [u64_id (n := z / 65536) (by omega) (by omega)]
  rw [ref_add_f (cap_wd hrp) ⟨by omega, by omega⟩, Option.bind_some, cap_cap' _ _ hrp (by omega), ref_add_f (cap_wd hqb) (cap_wd (by omega)), Option.bind_some, cap_cap _ _ hqb (by omega)]
  congr 2; omega
end Go.Proofs.Ytjjhdfpdoopedaa.SatOfGuess
