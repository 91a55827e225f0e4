/- Whether a number is in a set, as the reference has it, for every set and number. -/
import Derived.Test.YtigkkfhpnfjmhaaPRejMx5
import Derived.Test.YtigkkfhpnfjmhaaRefPowRejM
namespace Go.Proofs.Ytigkkfhpnfjmhaa.RefHasRejM
open Go.RowKit Go.Proofs.Ytigkkfhpnfjmhaa.PRejM Go.Proofs.YtigkkfhpnfjmhaaW.PrintWords Go.Proofs.YtigkkfhpnfjmhaaW.PrintLast Go.Proofs.YtigkkfhpnfjmhaaW.PrintMore Go.Proofs.Ytigkkfhpnfjmhaa.Bits Go.Proofs.Ytigkkfhpnfjmhaa.RefPowRejM
set_option linter.unusedVariables false
set_option linter.unusedSimpArgs false

/-- Is number i in the set? -/
def hasB (a : Nat) (i : Int) : Bool := decide (0 ≤ i ∧ i < 64) && a.testBit i.toNat
theorem ref_has_f {a : Nat} (ha : a < 18446744073709551616) (i : Int) {k : Nat} (hk : 64 ≤ k) : watersmeetref01_Has.f k (a : Int) i = some (hasB a i) := by
  unfold watersmeetref01_Has.f hasB
  by_cases h0 : 0 ≤ i
  · by_cases h1 : i < 64
    · obtain ⟨j, rfl⟩ : ∃ j : Nat, i = (j : Int) := ⟨i.toNat, by omega⟩
      rw [if_pos h0, if_pos h1, power_f (by omega) hk, Option.bind_some]
      have hp : 0 < 2 ^ j := Nat.two_pow_pos j
      have hz : ¬ (((2 ^ j : Nat) : Int) = 0) := fun e => by
        have e2 : (2 : Nat) ^ j = 0 := Int.ofNat_eq_zero.1 e
        exact absurd hp (by rw [e2]; exact Nat.lt_irrefl 0)
      rw [if_neg hz]
      have e1 : Int.tdiv (a : Int) ((2 ^ j : Nat) : Int) = ((a / 2 ^ j : Nat) : Int) := by rw [Int.ofNat_tdiv]
      have hl : a / 2 ^ j < 18446744073709551616 := Nat.lt_of_le_of_lt (Nat.div_le_self _ _) ha
      rw [e1, u64_nat hl]
      have e2 : Int.tmod ((a / 2 ^ j : Nat) : Int) 2 = ((a / 2 ^ j % 2 : Nat) : Int) := by rw [Int.ofNat_tmod]; rfl
      rw [e2]
      have e3 := div_mod_testBit a j
      have h3 : (0 ≤ (j : Int) ∧ (j : Int) < 64) := ⟨h0, h1⟩
      simp only [h3, and_self, decide_true, Bool.true_and, Int.toNat_natCast]
      congr 1
      rw [Bool.eq_iff_iff, ← e3]
      simp only [beq_iff_eq]
      omega
    · rw [if_pos h0, if_neg h1]; simp [h1]
  · rw [if_neg h0]; simp [h0]
end Go.Proofs.Ytigkkfhpnfjmhaa.RefHasRejM
