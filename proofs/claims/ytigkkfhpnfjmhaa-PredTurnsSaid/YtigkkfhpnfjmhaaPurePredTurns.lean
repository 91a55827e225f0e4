/- PredTurns: for all predicates and rows a predicate, Not of it, and both in And and Or, are what three-valued logic says; the chapter's examples hold. No condition beyond the row's own. -/
import Derived.Test.YtigkkfhpnfjmhaaPPredUx9
import Derived.Test.YtigkkfhpnfjmhaaPredOfPredU
namespace Go.Proofs.Ytigkkfhpnfjmhaa.Pure
open Go.RowKit Go.Proofs.Ytigkkfhpnfjmhaa.PPredU Go.Proofs.YtigkkfhpnfjmhaaW.PrintWords Go.Proofs.YtigkkfhpnfjmhaaW.PrintLast Go.Proofs.YtigkkfhpnfjmhaaW.PrintMore Go.Proofs.Ytigkkfhpnfjmhaa.Bits Go.Proofs.Ytigkkfhpnfjmhaa.PredOfPredU
set_option linter.unusedVariables false
set_option linter.unusedSimpArgs false

theorem turn_not {a : Int} (h : Three a) : watersmeetref04_Not.f a = some (2 - a) := by
  unfold watersmeetref04_Not.f watersmeetref04_three.f
  rcases h with rfl | rfl | rfl <;> decide +kernel
theorem and_two {a b : Int} (h : Three a) (g : Three b) : andL [a, b] = mn a b := by
  rcases h with rfl | rfl | rfl <;> rcases g with rfl | rfl | rfl <;> decide +kernel
theorem or_two {a b : Int} (h : Three a) (g : Three b) : orL [a, b] = mx a b := by
  rcases h with rfl | rfl | rfl <;> rcases g with rfl | rfl | rfl <;> decide +kernel
theorem PredTurns : watersmeetlaw06_PredTurns.Pure := by
  intro p q rows hp hq hr
  obtain ⟨m1, hp⟩ := hp
  obtain ⟨m2, hq⟩ := hq
  have hlen : rows.length ≤ 9223372036854775807 := hr.1
  obtain ⟨K1, b1, f1⟩ := few_some m1 p hp rows hlen
  obtain ⟨K2, b2, f2⟩ := few_some m2 q hq rows hlen
  obtain ⟨K3, hA⟩ := awake_ev
  obtain ⟨a, ha, K4, h4⟩ := of_two (r := rows) (s := rows) m1 p hp (agree_refl _ _ _)
  obtain ⟨b, hb, K5, h5⟩ := of_two (r := rows) (s := rows) m2 q hq (agree_refl _ _ _)
  have hrun : ∀ k, K1 + K2 + K3 + K4 + K5 + 30 ≤ k → ∀ t, watersmeetlaw06_PredTurns.j0 (k + 1) rows t p.f0 p.f1 p.f2 p.f3.f0 p.f3.f1 p.f3.f2 p.f3.f3.f0 p.f3.f3.f1 p.f4.f0 p.f4.f1 p.f4.f2 p.f4.f3.f0 p.f4.f3.f1 p.f5 q.f0 q.f1 q.f2 q.f3.f0 q.f3.f1 q.f3.f2 q.f3.f3.f0 q.f3.f3.f1 q.f4.f0 q.f4.f1 q.f4.f2 q.f4.f3.f0 q.f4.f3.f1 q.f5 = some true := by
    intro k hk t
    obtain ⟨k, rfl⟩ : ∃ m, k = m + 4 := ⟨k - 4, by omega⟩
    rw [watersmeetlaw06_PredTurns.j0]
    cases t with
    | true => rw [if_pos rfl, hA _ (by omega)]; rfl
    | false =>
      have e1 := (h4 (k + 4) (by omega)).1
      have e2 := (h5 (k + 4) (by omega)).1
      unfold ofF at e1 e2
      rw [if_neg (by simp), e1, Option.bind_some, e2, Option.bind_some, Option.bind_some]
      have hin : ¬ a < 0 := by rcases ha with rfl | rfl | rfl <;> omega
      have hin2 : ¬ a > 2 := by rcases ha with rfl | rfl | rfl <;> omega
      rw [if_neg hin, watersmeetlaw06_PredTurns.j1, if_neg (by simpa using hin2)]
      have g1 := fun j (hj : K4 ≤ j) => (h4 j hj).1
      have g2 := fun j (hj : K5 ≤ j) => (h5 j hj).1
      have hall : ∀ j, K4 + K5 ≤ j → ∀ i (h : i < [p, q].length), ofF j [p, q][i] rows = some ([a, b][i]'(by simpa using h)) := by
        intro j hj i h
        match i, h with
        | 0, _ => exact g1 j (by omega)
        | 1, _ => exact g2 j (by omega)
      have hparts : ∀ j, K4 + K5 + 4 ≤ j → pred_Of_1.l0 j [] [p, q] 2 0 rows = some [a, b] := by
        intro j hj
        have := parts_loop (r := rows) (l := [p, q]) (vs := [a, b]) (K := K4 + K5) (by simp) rfl hall 2 0 j (by simp) (by simp) (by omega)
        simpa using this
      have x1 := g1 (k + 2) (by omega)
      unfold ofF at x1
      have r0 : rd_T46 [p, q] 0 = p := rfl
      have n6 : pred_Of.f (k + 3) 6 0 0 0 0 0 false 0 0 0 0 false 0 [p, q] rows = some (2 - a) := by
        rw [pred_Of.f, if_neg (by omega), if_neg (by omega), if_neg (by omega), if_neg (by omega), if_neg (by omega), if_pos rfl, if_pos (by simp), if_pos (by simp), r0, x1, Option.bind_some, not_f ha]; rfl
      have n4 : pred_Of.f (k + 3) 4 0 0 0 0 0 false 0 0 0 0 false 0 [p, q] rows = some (mn a b) := by
        rw [pred_Of.f, if_neg (by omega), if_neg (by omega), if_neg (by omega), if_pos rfl, pred_Of_1.f]
        have := hparts (k + 1) (by omega)
        have e : (([p, q] : List SP).length : Int) = 2 := rfl
        rw [e, this, Option.bind_some, and_f [a, b] (by simp) (by simp; omega), Option.bind_some, and_two ha hb]
      have n5 : pred_Of.f (k + 3) 5 0 0 0 0 0 false 0 0 0 0 false 0 [p, q] rows = some (mx a b) := by
        rw [pred_Of.f, if_neg (by omega), if_neg (by omega), if_neg (by omega), if_neg (by omega), if_pos rfl, pred_Of_1.f]
        have := hparts (k + 1) (by omega)
        have e : (([p, q] : List SP).length : Int) = 2 := rfl
        rw [e, this, Option.bind_some, or_f [a, b] (by simp) (by simp; omega), Option.bind_some, or_two ha hb]
      have ep : ∀ p : SP, (⟨p.f0, p.f1, p.f2, ⟨p.f3.f0, p.f3.f1, p.f3.f2, ⟨p.f3.f3.f0, p.f3.f3.f1⟩⟩, ⟨p.f4.f0, p.f4.f1, p.f4.f2, ⟨p.f4.f3.f0, p.f4.f3.f1⟩⟩, p.f5⟩ : SP) = p := fun x => by cases x; rfl
      rw [ep p, ep q, n6, Option.bind_some, turn_not ha, Option.bind_some, if_pos rfl, n4, Option.bind_some, if_pos rfl, n5, Option.bind_some, if_pos rfl, hA _ (by omega)]; rfl
  refine ⟨K1 + K2 + K3 + K4 + K5 + 30 + 1, ?_⟩
  have e1 := f1 (K1 + K2 + K3 + K4 + K5 + 30 + 1) (by omega)
  have e2 := f2 (K1 + K2 + K3 + K4 + K5 + 30 + 1) (by omega)
  unfold fewF at e1 e2
  unfold watersmeetlaw06_PredTurns.f
  rw [e1, Option.bind_some]
  cases b1 with
  | false => rw [if_neg (by simp)]; exact hrun _ (by omega) true
  | true => rw [if_pos rfl, e2, Option.bind_some]; exact hrun _ (by omega) _
end Go.Proofs.Ytigkkfhpnfjmhaa.Pure
