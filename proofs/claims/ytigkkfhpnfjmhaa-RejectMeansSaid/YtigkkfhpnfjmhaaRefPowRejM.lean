/- What the reference's power comes to. -/
import Derived.Test.YtigkkfhpnfjmhaaPRejMx5
import Derived.Test.YtigkkfhpnfjmhaaStep
namespace Go.Proofs.Ytigkkfhpnfjmhaa.RefPowRejM
open Go.RowKit Go.Proofs.Ytigkkfhpnfjmhaa.PRejM Go.Proofs.YtigkkfhpnfjmhaaW.PrintWords Go.Proofs.YtigkkfhpnfjmhaaW.PrintLast Go.Proofs.YtigkkfhpnfjmhaaW.PrintMore Go.Proofs.Ytigkkfhpnfjmhaa.Bits
set_option linter.unusedVariables false
set_option linter.unusedSimpArgs false

theorem power_loop (n : Nat) (hn : n < 64) : ∀ (d k i : Nat), i ≤ n → n - i = d → d < k → watersmeetref01_power.l0 k (n : Int) ((2 ^ i : Nat) : Int) (i : Int) = some ((2 ^ n : Nat) : Int) := by
  intro d
  induction d with
  | zero =>
    intro k i hi hd hk
    obtain ⟨k, rfl⟩ : ∃ m, k = m + 1 := ⟨k - 1, by omega⟩
    obtain rfl : i = n := by omega
    rw [watersmeetref01_power.l0, if_neg (by omega)]
  | succ d ih =>
    intro k i hi hd hk
    obtain ⟨k, rfl⟩ : ∃ m, k = m + 1 := ⟨k - 1, by omega⟩
    have h2 : (2 : Nat) ^ (i + 1) < 18446744073709551616 := by rw [← pow64]; exact Nat.pow_lt_pow_right (by omega) (by omega)
    have e : IntKind.u64.wrap (((2 ^ i : Nat) : Int) * 2) = ((2 ^ (i + 1) : Nat) : Int) := by
      have e1 : (((2 ^ i : Nat) : Int) * 2) = ((2 ^ (i + 1) : Nat) : Int) := by rw [Nat.pow_succ]; simp
      rw [e1, u64_nat h2]
    rw [watersmeetref01_power.l0, if_pos (by omega), e, wrap_succ (by omega)]
    exact ih k (i + 1) (by omega) (by omega) (by omega)
theorem power_f {n : Nat} (hn : n < 64) {k : Nat} (hk : 64 ≤ k) : watersmeetref01_power.f k (n : Int) = some ((2 ^ n : Nat) : Int) :=
  power_loop n hn n k 0 (by omega) (by omega) (by omega)
end Go.Proofs.Ytigkkfhpnfjmhaa.RefPowRejM
