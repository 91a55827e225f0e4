/- What the reference's Has and In come to, for words. -/
import Derived.Test.YtjjhdfpdoopedaaPGSetx2
import Derived.Test.YtjjhdfpdoopedaaRefPowGSet
import Derived.Test.YtjjhdfpdoopedaaMembers
namespace Go.Proofs.Ytjjhdfpdoopedaa.RefInGSet
open Go.RowKit Go.Proofs.Ytjjhdfpdoopedaa.PGSet Go.Proofs.YtjjhdfpdoopedaaW.PrintWords Go.Proofs.YtjjhdfpdoopedaaW.PrintLast Go.Proofs.YtjjhdfpdoopedaaW.PrintMore Go.Proofs.Ytjjhdfpdoopedaa.Bits Go.Proofs.Ytjjhdfpdoopedaa.RefPowGSet
set_option linter.unusedVariables false
set_option linter.unusedSimpArgs false

theorem ref_has_f {a i : Nat} (ha : a < 18446744073709551616) (hi : i < 64) {k : Nat} (hk : 64 ≤ k) : watersmeetref01_Has.f k (a : Int) (i : Int) = some (a.testBit i) := by
  unfold watersmeetref01_Has.f
  rw [if_pos (by omega), if_pos (by omega), power_f hi hk, Option.bind_some]
  have hp : 0 < 2 ^ i := Nat.two_pow_pos i
  have hz : ¬ (((2 ^ i : Nat) : Int) = 0) := fun e => by
    have e2 : (2 : Nat) ^ i = 0 := Int.ofNat_eq_zero.1 e
    exact absurd hp (by rw [e2]; exact Nat.lt_irrefl 0)
  rw [if_neg hz, Int.tdiv_eq_ediv_of_nonneg (Int.natCast_nonneg a)]
  have e1 : ((a : Int) / ((2 ^ i : Nat) : Int)) = ((a / 2 ^ i : Nat) : Int) := by norm_cast
  have h2 : a / 2 ^ i ≤ a := Nat.div_le_self _ _
  rw [e1, u64_nat (by omega), Int.tmod_eq_emod_of_nonneg (Int.natCast_nonneg _)]
  have e2 : (((a / 2 ^ i : Nat) : Int) % 2) = ((a / 2 ^ i % 2 : Nat) : Int) := by norm_cast
  rw [e2]
  congr 1
  have := div_mod_testBit a i
  cases h : a.testBit i with
  | true =>
    rw [h] at this
    have := this.2 rfl
    simp [this]
  | false =>
    rw [h] at this
    have h3 : ¬ (a / 2 ^ i % 2 = 1) := fun e => by simpa using this.1 e
    have h4 : a / 2 ^ i % 2 = 0 := by omega
    rw [h4]; rfl
theorem ref_has_any {a i : Nat} (ha : a < 18446744073709551616) {k : Nat} (hk : 64 ≤ k) : watersmeetref01_Has.f k (a : Int) (i : Int) = some (decide (i < 64) && a.testBit i) := by
  by_cases h : i < 64
  · rw [ref_has_f ha h hk]; simp [h]
  · unfold watersmeetref01_Has.f
    rw [if_pos (by omega), if_neg (by omega)]; simp [h]
theorem ref_in_loop {a b : Nat} (ha : a < 18446744073709551616) (hb : b < 18446744073709551616) : ∀ (d i k : Nat), i ≤ 64 → 64 - i = d → d + 64 < k →
    ∃ r, watersmeetref01_In.l0 k (a : Int) (b : Int) (i : Int) = some r ∧ (r = true ↔ ∀ j, i ≤ j → j < 64 → a.testBit j = true → b.testBit j = true) := by
  intro d
  induction d with
  | zero =>
    intro i k hi hd hk
    obtain ⟨k, rfl⟩ : ∃ m, k = m + 1 := ⟨k - 1, by omega⟩
    refine ⟨true, by rw [watersmeetref01_In.l0, if_neg (by omega)], ?_⟩
    simp only [true_iff]
    intro j h1 h2; omega
  | succ d ih =>
    intro i k hi hd hk
    obtain ⟨k, rfl⟩ : ∃ m, k = m + 1 := ⟨k - 1, by omega⟩
    obtain ⟨r, hr, hi2⟩ := ih (i + 1) k (by omega) (by omega) (by omega)
    rw [watersmeetref01_In.l0, if_pos (by omega), ref_has_f ha (by omega) (by omega), Option.bind_some, ref_has_f hb (by omega) (by omega), wrap_succ (by omega)]
    by_cases h1 : a.testBit i = true
    · rw [if_pos h1, Option.bind_some]
      by_cases h2 : b.testBit i = true
      · rw [if_pos h2]
        refine ⟨r, hr, hi2.trans ⟨fun h j e1 e2 e3 => ?_, fun h j e1 e2 e3 => h j (by omega) e2 e3⟩⟩
        by_cases e : j = i
        · exact e ▸ h2
        · exact h j (by omega) e2 e3
      · rw [if_neg h2]
        refine ⟨false, rfl, ?_⟩
        simp only [Bool.false_eq_true, false_iff]
        intro h
        exact h2 (h i (by omega) (by omega) h1)
    · rw [if_neg h1]
      refine ⟨r, hr, hi2.trans ⟨fun h j e1 e2 e3 => ?_, fun h j e1 e2 e3 => h j (by omega) e2 e3⟩⟩
      by_cases e : j = i
      · exact absurd (e ▸ e3) h1
      · exact h j (by omega) e2 e3
theorem ref_in_f {a b : Nat} (ha : a < 18446744073709551616) (hb : b < 18446744073709551616) {k : Nat} (hk : 128 < k) : watersmeetref01_In.f k (a : Int) (b : Int) = some (inB a b) := by
  obtain ⟨r, hr, h⟩ := ref_in_loop ha hb 64 0 k (by omega) (by omega) (by omega)
  unfold watersmeetref01_In.f
  rw [show (0 : Int) = ((0 : Nat) : Int) from rfl, hr]
  apply congrArg
  have h2 := inB_iff ha hb
  rw [Bool.eq_iff_iff, h2, h]
  exact ⟨fun e j hj => e j (by omega) hj, fun e j _ hj => e j hj⟩
end Go.Proofs.Ytjjhdfpdoopedaa.RefInGSet
