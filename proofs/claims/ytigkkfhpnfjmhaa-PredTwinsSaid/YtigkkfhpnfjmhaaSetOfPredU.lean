/- What sets.one, sets.Of come to: the word whose digits are the members. -/
import Derived.Test.YtigkkfhpnfjmhaaPPredUx6
import Derived.Test.YtigkkfhpnfjmhaaStep
namespace Go.Proofs.Ytigkkfhpnfjmhaa.SetOfPredU
open Go.RowKit Go.Proofs.Ytigkkfhpnfjmhaa.PPredU Go.Proofs.YtigkkfhpnfjmhaaW.PrintWords Go.Proofs.YtigkkfhpnfjmhaaW.PrintLast Go.Proofs.YtigkkfhpnfjmhaaW.PrintMore Go.Proofs.Ytigkkfhpnfjmhaa.Bits
set_option linter.unusedVariables false
set_option linter.unusedSimpArgs false

theorem one_f (i : Int) : sets_one.f i = some ((oneN i : Nat) : Int) := by
  unfold sets_one.f oneN
  by_cases h : i < 0
  · rw [if_pos h, if_neg (by omega)]; rfl
  · by_cases h2 : i ≥ 64
    · rw [if_neg h, if_pos h2, if_neg (by omega)]; rfl
    · have e : IntKind.u64.wrap i = i := by rw [IntKind.wrap_u64]; omega
      rw [if_neg h, if_neg h2, e, if_pos (by omega), if_pos (by omega)]
      unfold shl
      have hb : IntKind.u64.bits = 64 := rfl
      rw [hb, Nat.min_eq_left (by omega), shl_one (by omega)]
theorem of_loop (l : List Int) (hl : l.length ≤ 9223372036854775807) : ∀ (d k i : Nat), i ≤ l.length → l.length - i = d → d < k →
    sets_Of.l0 k ((ofs (l.take i) : Nat) : Int) l (l.length : Int) (i : Int) = some ((ofs l : Nat) : Int) := by
  intro d
  induction d with
  | zero =>
    intro k i hi hd hk
    obtain ⟨k, rfl⟩ : ∃ m, k = m + 1 := ⟨k - 1, by omega⟩
    obtain rfl : i = l.length := by omega
    rw [sets_Of.l0, if_neg (by omega), List.take_length]
  | succ d ih =>
    intro k i hi hd hk
    obtain ⟨k, rfl⟩ : ∃ m, k = m + 1 := ⟨k - 1, by omega⟩
    have hlt : i < l.length := by omega
    rw [sets_Of.l0, if_pos (by omega), if_pos (by omega), if_pos (by omega), rd_nat hlt, one_f, Option.bind_some, or_cast (ofs_lt _) (oneN_lt _), wrap_succ (by omega), ← ofs_snoc, List.take_append_getElem hlt]
    exact ih k (i + 1) (by omega) (by omega) (by omega)
/-- The set of a list's members. -/
theorem of_f (l : List Int) (hl : l.length ≤ 9223372036854775807) {k : Nat} (hk : l.length < k) : sets_Of.f k l = some ((ofs l : Nat) : Int) := by
  have := of_loop l hl l.length k 0 (by omega) (by omega) hk
  rw [List.take_zero, ofs_nil] at this
  exact this
end Go.Proofs.Ytigkkfhpnfjmhaa.SetOfPredU
