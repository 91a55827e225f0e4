/- The chapter's example of package guess. -/
import Derived.Test.YtjjhdfpdoopedaaPGGrowx2
import Derived.Test.YtjjhdfpdoopedaaGuessOfGGrow
namespace Go.Proofs.Ytjjhdfpdoopedaa.GuessAwakeGGrow
open Go.RowKit Go.Proofs.Ytjjhdfpdoopedaa.PGGrow Go.Proofs.YtjjhdfpdoopedaaW.PrintWords Go.Proofs.YtjjhdfpdoopedaaW.PrintLast Go.Proofs.YtjjhdfpdoopedaaW.PrintMore Go.Proofs.Ytjjhdfpdoopedaa.Bits Go.Proofs.Ytjjhdfpdoopedaa.SatMath Go.Proofs.Ytjjhdfpdoopedaa.Wd Go.Proofs.Ytjjhdfpdoopedaa.GuessOfGGrow
set_option linter.unusedVariables false
set_option linter.unusedSimpArgs false

theorem wd (n : Int) (h : 0 ≤ n ∧ n < 18446744073709551616 := by decide) : Wd n := h
theorem awake {k : Nat} (hk : 200 < k) : watersmeetlaw27_awake.f k = some true := by
  unfold watersmeetlaw27_awake.f
  simp only [Option.bind_some]
  have hl : ∀ e ∈ ([⟨1, ([] : List (S92)), 3, 1, 2⟩] : List S57), EOk e := by intro e he; simp only [List.mem_singleton] at he; subst he; exact ⟨wd _, wd _⟩
  have hm : ∀ e ∈ ([⟨3, ([] : List (S92)), 3, 1, 2⟩] : List S57), EOk e := by intro e he; simp only [List.mem_singleton] at he; subst he; exact ⟨wd _, wd _⟩
  have hr : ∀ x ∈ ([10, 10] : List Int), Wd x := by intro e he; simp at he; subst he; exact wd _
  have hs : ∀ x ∈ ([6553] : List Int), Wd x := by intro e he; simp at he; subst he; exact wd _
  have h0 : ∀ x ∈ ([] : List Int), Wd x := by intro e he; simp at he
  have a1 := rows_f (k := k) (by simp) hl hr hs (set := 3) (by omega) (by simp; omega)
  have a2 := rows_f (k := k) (by simp) hl hr hs (set := 1) (by omega) (by simp; omega)
  have a3 := rows_f (k := k) (by simp) hm hr hs (set := 3) (by omega) (by simp; omega)
  have a4 := hidden_f (k := k) (by simp) hm (by simp; omega)
  have a5 := hidden_f (k := k) (by simp) hl (by simp; omega)
  have a6 := rows_f (k := k) (l := []) (by simp) (by simp) h0 h0 (set := 7) (by omega) (by simp; omega)
  have e1 : ((3 : Nat) : Int) = 3 := rfl
  have e2 : ((1 : Nat) : Int) = 1 := rfl
  have e3 : ((7 : Nat) : Int) = 7 := rfl
  rw [e1] at a1 a3
  rw [e2] at a2
  rw [e3] at a6
  rw [a1, Option.bind_some, if_pos (by decide), a2, Option.bind_some, if_pos (by decide), a3, Option.bind_some, if_pos (by decide), a4, Option.bind_some, if_pos (by decide), a5, Option.bind_some, if_pos (by decide), a6, Option.bind_some]
  decide
end Go.Proofs.Ytjjhdfpdoopedaa.GuessAwakeGGrow
