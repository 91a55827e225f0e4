/- GuessTells: for all edges, statistics and sets, guess.Rows and guess.Hidden are the document's; the chapter's example holds. No condition beyond the row's own. -/
import Derived.Test.YtjjhdfpdoopedaaPGuessx5
import Derived.Test.YtjjhdfpdoopedaaGuessRefGuess
import Derived.Test.YtjjhdfpdoopedaaGuessAwakeGuess
namespace Go.Proofs.Ytjjhdfpdoopedaa.Pure
open Go.RowKit Go.Proofs.Ytjjhdfpdoopedaa.PGuess Go.Proofs.YtjjhdfpdoopedaaW.PrintWords Go.Proofs.YtjjhdfpdoopedaaW.PrintLast Go.Proofs.YtjjhdfpdoopedaaW.PrintMore Go.Proofs.Ytjjhdfpdoopedaa.Bits Go.Proofs.Ytjjhdfpdoopedaa.SatMath Go.Proofs.Ytjjhdfpdoopedaa.Wd Go.Proofs.Ytjjhdfpdoopedaa.GuessOfGuess Go.Proofs.Ytjjhdfpdoopedaa.GuessRefGuess Go.Proofs.Ytjjhdfpdoopedaa.GuessAwakeGuess

theorem GuessTells : watersmeetlaw27_GuessTells.Pure := by
  intro l s a hl hs ha
  obtain ⟨hl1, _, hl2⟩ := hl
  obtain ⟨hs1, hs2⟩ := hs
  obtain ⟨set, rfl, hset⟩ := wd_nat ha
  have hlen : l.length ≤ 9223372036854775807 := hl1
  have hw : ∀ e ∈ l, EOk e := by
    intro e he
    obtain ⟨_, _, h2, _, h4⟩ := hl2 e he
    exact ⟨wd_of h2, wd_of h4⟩
  have hrows : ∀ x ∈ s.f0, Wd x := fun x hx => wd_of (hs1.2.2 x hx)
  have hsel : ∀ x ∈ s.f1, Wd x := fun x hx => wd_of (hs2.2.2 x hx)
  refine ⟨2 * l.length + 20000, ?_⟩
  unfold watersmeetlaw27_GuessTells.f
  rw [awake (by omega), rows_f hlen hw hrows hsel hset (by omega), rRows_f hlen hw hrows hsel hset (by omega), hidden_f hlen hw (by omega), rHidden_f hlen hw (by omega), hid_word hw]
  unfold watersmeetlaw27_few.f
  simp only [Option.bind_some]
  repeat' split
  all_goals simp_all
end Go.Proofs.Ytjjhdfpdoopedaa.Pure
