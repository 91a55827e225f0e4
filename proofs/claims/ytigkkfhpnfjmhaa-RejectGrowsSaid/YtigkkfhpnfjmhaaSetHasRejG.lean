/- Whether a number is in a set, as the program has it, for every set and number. -/
import Derived.Test.YtigkkfhpnfjmhaaPRejGx2
import Derived.Test.YtigkkfhpnfjmhaaStep
import Derived.Test.YtigkkfhpnfjmhaaMembers
namespace Go.Proofs.Ytigkkfhpnfjmhaa.SetHasRejG
open Go.RowKit Go.Proofs.Ytigkkfhpnfjmhaa.PRejG Go.Proofs.YtigkkfhpnfjmhaaW.PrintWords Go.Proofs.YtigkkfhpnfjmhaaW.PrintLast Go.Proofs.YtigkkfhpnfjmhaaW.PrintMore Go.Proofs.Ytigkkfhpnfjmhaa.Bits
set_option linter.unusedVariables false
set_option linter.unusedSimpArgs false

/-- Is number i in the set? -/
def hasB (a : Nat) (i : Int) : Bool := decide (0 ≤ i ∧ i < 64) && a.testBit i.toNat
theorem one_f (i : Int) : sets_one.f i = some ((oneN i : Nat) : Int) := by
  unfold sets_one.f oneN
  by_cases h : i < 0
  · rw [if_pos h, if_neg (by omega)]; rfl
  · by_cases h2 : i ≥ 64
    · rw [if_neg h, if_pos h2, if_neg (by omega)]; rfl
    · have e : IntKind.u64.wrap i = i := by rw [IntKind.wrap_u64]; omega
      rw [if_neg h, if_neg h2, e, if_pos (by omega), if_pos (by omega)]
      unfold shl
      have hb : IntKind.u64.bits = 64 := rfl
      rw [hb, Nat.min_eq_left (by omega), shl_one (by omega)]
theorem has_f {a : Nat} (ha : a < 18446744073709551616) (i : Int) : sets_Has.f (a : Int) i = some (hasB a i) := by
  unfold sets_Has.f
  rw [one_f, Option.bind_some, hasB]
  by_cases h : 0 ≤ i ∧ i < 64
  · obtain ⟨j, rfl⟩ : ∃ j : Nat, i = (j : Int) := ⟨i.toNat, by omega⟩
    have e : oneN (j : Int) = 2 ^ j := by unfold oneN; rw [if_pos h]; simp
    rw [e, has_cast ha (by omega)]
    simp [h]
  · have e : oneN i = 0 := by unfold oneN; rw [if_neg h]
    rw [e, and_cast ha (by omega)]
    simp [h]
end Go.Proofs.Ytigkkfhpnfjmhaa.SetHasRejG
