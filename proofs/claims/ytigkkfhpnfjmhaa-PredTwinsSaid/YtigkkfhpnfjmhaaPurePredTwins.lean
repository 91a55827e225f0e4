/- PredTwins: for all predicates and rows, what a predicate is hangs on the rows of the tables that it names alone; the chapter's examples hold. No condition beyond the row's own. -/
import Derived.Test.YtigkkfhpnfjmhaaPPredUx10
import Derived.Test.YtigkkfhpnfjmhaaPPredUx10
import Derived.Test.YtigkkfhpnfjmhaaPredTabPredU
import Derived.Test.YtigkkfhpnfjmhaaRefHasPredU
namespace Go.Proofs.Ytigkkfhpnfjmhaa.Pure
open Go.RowKit Go.Proofs.Ytigkkfhpnfjmhaa.PPredU Go.Proofs.YtigkkfhpnfjmhaaW.PrintWords Go.Proofs.YtigkkfhpnfjmhaaW.PrintLast Go.Proofs.YtigkkfhpnfjmhaaW.PrintMore Go.Proofs.Ytigkkfhpnfjmhaa.Bits Go.Proofs.Ytigkkfhpnfjmhaa.PredOfPredU Go.Proofs.Ytigkkfhpnfjmhaa.PredTabPredU Go.Proofs.Ytigkkfhpnfjmhaa.RefHasPredU
set_option linter.unusedVariables false
set_option linter.unusedSimpArgs false

theorem few_true {p : SP} {r : List (List SV)} : ∀ k, (∀ i, watersmeetlaw06_Few.l0 k r i p.f0 p.f1 p.f2 p.f3.f0 p.f3.f1 p.f3.f2 p.f3.f3.f0 p.f3.f3.f1 p.f4.f0 p.f4.f1 p.f4.f2 p.f4.f3.f0 p.f4.f3.f1 p.f5 = some true → ∃ j x, sizeF j p 201 = some x ∧ x ≤ 200) ∧
    (∀ i c, watersmeetlaw06_Few.j1 k r i c p.f0 p.f1 p.f2 p.f3.f0 p.f3.f1 p.f3.f2 p.f3.f3.f0 p.f3.f3.f1 p.f4.f0 p.f4.f1 p.f4.f2 p.f4.f3.f0 p.f4.f3.f1 p.f5 = some true → ∃ j x, sizeF j p 201 = some x ∧ x ≤ 200) := by
  intro k
  induction k with
  | zero => exact ⟨fun i h => by simp [watersmeetlaw06_Few.l0] at h, fun i c h => by simp [watersmeetlaw06_Few.j1] at h⟩
  | succ k ih =>
    obtain ⟨h1, h2⟩ := ih
    constructor
    · intro i h
      rw [watersmeetlaw06_Few.l0] at h
      split at h
      · exact h2 _ _ h
      · exact h2 _ _ h
    · intro i c h
      rw [watersmeetlaw06_Few.j1] at h
      split at h
      · split at h
        · split at h
          · split at h
            · simp at h
            · exact h1 _ h
          · simp at h
        · simp at h
      · split at h
        · obtain ⟨x, e1, e2⟩ := Option.bind_eq_some_iff.1 h
          refine ⟨k, x, e1, ?_⟩
          simpa using e2
        · simp at h
/-- A twin's row. -/
def tw (s : Nat) (rows others : List (List SV)) (j : Nat) : List SV := if s.testBit j = true then rows.getD j [] else others.getD j []
def twin (s : Nat) (rows others : List (List SV)) (n : Nat) : List (List SV) := (List.range n).map (tw s rows others)
theorem twin_succ (s : Nat) (rows others : List (List SV)) (n : Nat) : twin s rows others (n + 1) = twin s rows others n ++ [tw s rows others n] := by simp [twin, List.range_succ]
theorem twin_len (s : Nat) (rows others : List (List SV)) (n : Nat) : (twin s rows others n).length = n := by simp [twin]
theorem small_ {n i : Nat} (e : n = i) (h : i < 64) (m : Nat) (hm : 64 ≤ m) : n < m := Nat.lt_of_lt_of_le (e ▸ h) hm
theorem twin_short {s : Nat} {rows others : List (List SV)} {i : Nat} (h : i < 64) : (twin s rows others i).length < 5864062014805 := small_ (twin_len s rows others i) h _ (by decide)
theorem rdR (l : List (List SV)) (i : Nat) : rd_L5 l (i : Int) = l.getD i [] := by unfold rd_L5; rw [Int.toNat_natCast]
theorem tof_twin {s : Nat} {rows others : List (List SV)} (hr : rows.length ≤ 64) {t : ST} (h : In s t) : tof t (twin s rows others 64) = tof t rows := by
  unfold tof
  by_cases h0 : t.f0 = 1
  · rw [if_pos h0, if_pos h0]
    unfold cell
    rw [twin_len]
    by_cases h1 : 0 ≤ t.f1 ∧ t.f1 < 64
    · have hb := h h0 h1.1 h1.2
      have e : (twin s rows others 64).getD t.f1.toNat [] = rows.getD t.f1.toNat [] := by
        have hlt : t.f1.toNat < 64 := by omega
        have e1 : (twin s rows others 64).getD t.f1.toNat [] = tw s rows others t.f1.toNat := by simp [twin, hlt]
        rw [e1, tw, if_pos hb]
      rw [if_pos (by omega), e]
      by_cases h2 : t.f1 < (rows.length : Int)
      · rw [if_pos (show 0 ≤ t.f1 ∧ t.f1 < (rows.length : Int) from ⟨h1.1, h2⟩)]
      · have e2 : rows.getD t.f1.toNat [] = [] := by
          rw [List.getD_eq_getElem?_getD, List.getElem?_eq_none (by omega)]; rfl
        rw [if_neg (show ¬ (0 ≤ t.f1 ∧ t.f1 < (rows.length : Int)) from fun z => h2 z.2), e2, if_neg (by simp)]
    · rw [if_neg (by omega), if_neg (by omega)]
  · rw [if_neg h0, if_neg h0]
theorem agree_twin {s : Nat} {rows others : List (List SV)} (hr : rows.length ≤ 64) : ∀ (m : Nat) (p : SP), Within s m p → Agree (twin s rows others 64) rows m p
  | 0, _, _ => trivial
  | m + 1, p, ⟨h1, h2, h3⟩ => ⟨tof_twin hr h1, tof_twin hr h2, fun x hx => agree_twin hr m x (h3 x hx)⟩
theorem PredTwins : watersmeetlaw06_PredTwins.Pure := by
  intro p rows others hp hr ho
  obtain ⟨m, hp⟩ := hp
  have hlen : rows.length ≤ 9223372036854775807 := hr.1
  have hlen2 : others.length ≤ 9223372036854775807 := ho.1
  obtain ⟨K1, b1, f1⟩ := few_some m p hp rows hlen
  obtain ⟨K2, b2, f2⟩ := few_some m p hp others hlen2
  obtain ⟨K3, hA⟩ := awake_ev
  have hyes : ∀ k, K3 < k → watersmeetlaw06_PredTwins.j0 k rows others true p.f0 p.f1 p.f2 p.f3.f0 p.f3.f1 p.f3.f2 p.f3.f3.f0 p.f3.f3.f1 p.f4.f0 p.f4.f1 p.f4.f2 p.f4.f3.f0 p.f4.f3.f1 p.f5 = some true := by
    intro k hk
    obtain ⟨k, rfl⟩ : ∃ m, k = m + 1 := ⟨k - 1, by omega⟩
    rw [watersmeetlaw06_PredTwins.j0, if_pos rfl, hA _ (by omega)]; rfl
  cases b1 with
  | false =>
    refine ⟨K1 + K2 + K3 + 1, ?_⟩
    have e1 := f1 (K1 + K2 + K3 + 1) (by omega)
    unfold fewF at e1
    unfold watersmeetlaw06_PredTwins.f
    rw [e1, Option.bind_some, if_neg (by simp)]
    exact hyes _ (by omega)
  | true =>
    cases b2 with
    | false =>
      refine ⟨K1 + K2 + K3 + 1, ?_⟩
      have e1 := f1 (K1 + K2 + K3 + 1) (by omega)
      have e2 := f2 (K1 + K2 + K3 + 1) (by omega)
      unfold fewF at e1 e2
      unfold watersmeetlaw06_PredTwins.f
      rw [e1, Option.bind_some, if_pos rfl, e2, Option.bind_some]
      exact hyes _ (by omega)
    | true =>
      have hn : nodes m p ≤ 100000 := by
        have e1 := f1 K1 (Nat.le_refl _)
        unfold fewF watersmeetlaw06_Few.f at e1
        obtain ⟨j, x, h1, h2⟩ := (few_true K1).1 _ e1
        obtain ⟨g1, g2, g3⟩ := size_nodes m p hp j 201 x (by omega) h1
        have := g3 (by omega)
        omega
      obtain ⟨s, K4, hs, hwi, hT⟩ := tables_ev hp hn
      clear hn
      have hof : rows.length ≤ 64 → ∃ v, ∃ K, ∀ k, K ≤ k → Tell k (twin s rows others 64) rows p v := by
        intro hr64
        obtain ⟨v, _, K, h⟩ := of_two m p hp (agree_twin (others := others) hr64 m p hwi)
        exact ⟨v, K, h⟩
      have hend : ∃ K5, ∀ k, K5 + K3 < k → watersmeetlaw06_PredTwins.l0 k rows others (s : Int) (twin s rows others 64) 64 p.f0 p.f1 p.f2 p.f3.f0 p.f3.f1 p.f3.f2 p.f3.f3.f0 p.f3.f3.f1 p.f4.f0 p.f4.f1 p.f4.f2 p.f4.f3.f0 p.f4.f3.f1 p.f5 = some true := by
        by_cases hr64 : rows.length ≤ 64
        · obtain ⟨v, K, h⟩ := hof hr64
          refine ⟨K, fun k hk => ?_⟩
          obtain ⟨k, rfl⟩ : ∃ m, k = m + 1 := ⟨k - 1, by omega⟩
          obtain ⟨e1, e2⟩ := h k (by omega)
          unfold ofF at e1 e2
          rw [watersmeetlaw06_PredTwins.l0, if_neg (by omega), if_neg (by omega), e1, Option.bind_some, e2, Option.bind_some, if_pos rfl, hA _ (by omega)]; rfl
        · refine ⟨0, fun k hk => ?_⟩
          obtain ⟨k, rfl⟩ : ∃ m, k = m + 1 := ⟨k - 1, by omega⟩
          rw [watersmeetlaw06_PredTwins.l0, if_neg (by omega), if_pos (by omega), hA _ (by omega)]; rfl
      obtain ⟨K5, hend⟩ := hend
      have hloop : ∀ (d i k : Nat), i ≤ 64 → 64 - i = d → K5 + K3 + 2 * d + 100 < k → watersmeetlaw06_PredTwins.l0 k rows others (s : Int) (twin s rows others i) (i : Int) p.f0 p.f1 p.f2 p.f3.f0 p.f3.f1 p.f3.f2 p.f3.f3.f0 p.f3.f3.f1 p.f4.f0 p.f4.f1 p.f4.f2 p.f4.f3.f0 p.f4.f3.f1 p.f5 = some true := by
        intro d
        induction d with
        | zero =>
          intro i k hi hd hk
          obtain rfl : i = 64 := by omega
          have e64 : ((64 : Nat) : Int) = 64 := rfl
          rw [e64]
          exact hend k (by omega)
        | succ d ih =>
          intro i k hi hd hk
          obtain ⟨k, rfl⟩ : ∃ m, k = m + 2 := ⟨k - 2, by omega⟩
          have hlt : i < 64 := by omega
          have hb : hasB s (i : Int) = s.testBit i := by
            unfold hasB
            have : (0 ≤ (i : Int) ∧ (i : Int) < 64) := by omega
            simp [this]
          have hnext := ih (i + 1) k (by omega) (by omega) (by omega)
          have hw : wrap64 ((i : Int) + 1) = ((i + 1 : Nat) : Int) := by unfold wrap64; omega
          have hap : (twin s rows others i).length < 5864062014805 := twin_short hlt
          rw [watersmeetlaw06_PredTwins.l0, if_pos (by omega), ref_has_f hs _ (by omega), Option.bind_some, hb]
          rw [twin_succ] at hnext
          unfold tw at hnext
          cases hbit : s.testBit i with
          | true =>
            rw [hbit, if_pos rfl] at hnext
            rw [if_pos rfl]
            by_cases hin : (i : Int) < (rows.length : Int)
            · have e : decide ((i : Int) < (rows.length : Int)) = true := by simpa using hin
              rw [e, watersmeetlaw06_PredTwins.j2, if_pos rfl, if_pos (by omega), if_pos hin, if_pos hap, hw, rdR]
              exact hnext
            · have e : decide ((i : Int) < (rows.length : Int)) = false := by simpa using hin
              have e2 : rows.getD i [] = [] := by rw [List.getD_eq_getElem?_getD, List.getElem?_eq_none (by omega)]; rfl
              rw [e, watersmeetlaw06_PredTwins.j2, if_neg (by simp), ref_has_f hs _ (by omega), Option.bind_some, hb, hbit, if_pos rfl, if_pos hap, hw]
              rw [e2] at hnext
              exact hnext
          | false =>
            rw [hbit, if_neg (by simp)] at hnext
            rw [if_neg (by simp), watersmeetlaw06_PredTwins.j2, if_neg (by simp), ref_has_f hs _ (by omega), Option.bind_some, hb, hbit, if_neg (by simp)]
            by_cases hin : (i : Int) < (others.length : Int)
            · rw [if_pos hin, if_pos (by omega), if_pos hap, hw, rdR]
              exact hnext
            · have e2 : others.getD i [] = [] := by rw [List.getD_eq_getElem?_getD, List.getElem?_eq_none (by omega)]; rfl
              rw [if_neg hin, if_pos hap, hw]
              rw [e2] at hnext
              exact hnext
      refine ⟨K1 + K2 + K3 + K4 + K5 + 300, ?_⟩
      have e1 := f1 (K1 + K2 + K3 + K4 + K5 + 300) (by omega)
      have e2 := f2 (K1 + K2 + K3 + K4 + K5 + 300) (by omega)
      have e3 := hT (K1 + K2 + K3 + K4 + K5 + 299) (by omega)
      unfold fewF at e1 e2
      unfold tabF at e3
      unfold watersmeetlaw06_PredTwins.f
      rw [e1, Option.bind_some, if_pos rfl, e2, Option.bind_some]
      have ek : K1 + K2 + K3 + K4 + K5 + 300 = (K1 + K2 + K3 + K4 + K5 + 299) + 1 := rfl
      rw [ek, watersmeetlaw06_PredTwins.j0, if_neg (by simp), e3, Option.bind_some]
      have := hloop 64 0 (K1 + K2 + K3 + K4 + K5 + 299) (by omega) (by omega) (by omega)
      simpa [twin] using this
end Go.Proofs.Ytigkkfhpnfjmhaa.Pure
