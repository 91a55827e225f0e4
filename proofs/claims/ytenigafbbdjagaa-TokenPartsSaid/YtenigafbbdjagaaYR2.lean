/- Plain facts: how much text tokens hold. -/
import Derived.Test.YtenigafbbdjagaaYK3
import Derived.Test.YtenigafbbdjagaaYK4
namespace Go.Proofs.Ytenigafbbdjagaa.AL
open Go Go.Proofs
set_option linter.unusedVariables false
theorem flush_B (out : List Tkn) (op : Tkn) : tokB (flushF out op) ≤ tokB out + op.text.length + 1 := by
  unfold flushF
  split
  · omega
  · rw [tokB_snoc]; omega
theorem tokR_B : ∀ (l : List Int) (out : List Tkn) (op : Tkn) (i : Nat), tokB (tokR l out op i).1 ≤ tokB out + op.text.length + 1 + 5 * l.length
  | [], out, op, i => by
    have := flush_B out op
    simp only [tokR, List.length_nil]; omega
  | r :: l, out, op, i => by
    have hf := flush_B out op
    have he := encB_len r
    unfold tokR
    split
    · have ih := tokR_B l out ⟨op.kind, op.text ++ encB r, op.pos⟩ (i + 1)
      simp only [List.length_append, List.length_cons] at ih ⊢
      omega
    · split
      · have ih := tokR_B l (flushF out op) zeroT (i + 1)
        simp only [zeroT, List.length_nil, List.length_cons] at ih ⊢
        omega
      · split
        · simp [tokB]
        · have ih := tokR_B l (flushF out op) ⟨kindF r, encB r, i⟩ (i + 1)
          simp only [List.length_cons] at ih ⊢
          omega
theorem tokens_B (s : List UInt8) : tokB (tokensF s).1 ≤ 400000 := by
  unfold tokensF
  split
  · simp [tokB]
  · have h1 := tokR_B (runesF s) [] zeroT 0
    have h2 := runesF_len s
    have h3 : tokB [] = 0 := rfl
    have h4 : zeroT.text.length = 0 := rfl
    omega
end Go.Proofs.Ytenigafbbdjagaa.AL
