/- TermTells: for all terms and rows, Right, Same, Tables and Of of package term are the document's; the chapter's example holds. No condition beyond the row's own. -/
import Derived.Test.YtjjhdfpdoopedaaPTermx5
import Derived.Test.YtjjhdfpdoopedaaTermFactsTerm
namespace Go.Proofs.Ytjjhdfpdoopedaa.Pure
open Go.RowKit Go.Proofs.Ytjjhdfpdoopedaa.PTerm Go.Proofs.YtjjhdfpdoopedaaW.PrintWords Go.Proofs.YtjjhdfpdoopedaaW.PrintLast Go.Proofs.Ytjjhdfpdoopedaa.TermFactsTerm Go.Proofs.Ytjjhdfpdoopedaa.Opens

theorem TermTells : watersmeetlaw05_TermTells.Pure := by
  intro x y l hx hy hl
  obtain ⟨hl1, _, hl2⟩ := hl
  have hlen : l.length ≤ 9223372036854775807 := hl1
  have hrow : ∀ i, (l.getD i []).length ≤ 9223372036854775807 := by
    intro i
    by_cases h : i < l.length
    · have e : l.getD i [] = l[i] := by simp [h]
      rw [e]; exact (hl2 _ (List.getElem_mem h)).1
    · have e : l.getD i [] = [] := by rw [List.getD_eq_getElem?_getD, List.getElem?_eq_none (by omega)]; rfl
      rw [e]; simp
  obtain ⟨b, hb⟩ := few_f l hlen l.length 0 (by omega) (by omega)
  refine ⟨2 * l.length + 2 + 5001 + many l l.length, ?_⟩
  unfold watersmeetlaw05_TermTells.f
  have hf : watersmeetlaw05_few.f (2 * l.length + 2 + 5001 + many l l.length) l = some b := hb _ (by omega)
  rw [hf, awake (by omega), tables_f _ _ _ _ _ (by omega), ref_tables_f _ _ _ _ _ (by omega), right_f]
  simp only [Option.bind_some, term_Right.f, term_Same.f]
  by_cases ha : x.f0 = 1
  · rw [ha, of_col, ref_of_col _ _ _ _ _ hlen hrow (by omega)]
    cases b <;> simp
  · rw [of_val ha, ref_of_val ha]
    cases b <;> simp
end Go.Proofs.Ytjjhdfpdoopedaa.Pure
