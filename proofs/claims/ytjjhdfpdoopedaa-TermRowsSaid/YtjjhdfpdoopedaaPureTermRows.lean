/- TermRows: what a term is hangs on the one row that it names alone; of a table whose row is taken away it is null. No condition beyond the row's own. -/
import Derived.Test.YtjjhdfpdoopedaaPTermRx4
import Derived.Test.YtjjhdfpdoopedaaTermOfTermR
namespace Go.Proofs.Ytjjhdfpdoopedaa.Pure
open Go.RowKit Go.Proofs.Ytjjhdfpdoopedaa.PTermR Go.Proofs.YtjjhdfpdoopedaaW.PrintWords Go.Proofs.YtjjhdfpdoopedaaW.PrintLast Go.Proofs.Ytjjhdfpdoopedaa.TermOfTermR Go.Proofs.Ytjjhdfpdoopedaa.Opens

theorem cell_other (l : List (List S31)) (t c : Int) (i : Nat) (h : ¬ ((i : Int) = t)) : cell (l.set i []) t c = cell l t c := by
  unfold cell
  rw [List.length_set]
  by_cases h1 : 0 ≤ t ∧ t < l.length
  · have e : (l.set i []).getD t.toNat [] = l.getD t.toNat [] := by
      rw [List.getD_eq_getElem?_getD, List.getD_eq_getElem?_getD, List.getElem?_set_ne (by omega)]
    rw [if_pos h1, if_pos h1, e]
  · rw [if_neg h1, if_neg h1]
theorem cell_same (l : List (List S31)) (t c : Int) (i : Nat) (h : (i : Int) = t) (hi : i < l.length) : cell (l.set i []) t c = (true, 0) := by
  unfold cell
  rw [List.length_set, if_pos (by omega)]
  have e : (l.set i []).getD t.toNat [] = [] := by
    rw [List.getD_eq_getElem?_getD, show t.toNat = i by omega, List.getElem?_set_self hi]; rfl
  rw [e, if_neg (fun h => by have h1 := h.1; have h2 := h.2; simp only [List.length_nil] at h2; omega)]
theorem cell_out (l : List (List S31)) (t c : Int) (h : ¬ (0 ≤ t ∧ t < l.length)) : cell l t c = (true, 0) := by
  unfold cell; rw [if_neg h]

/-- Behind the first change: a twin that tells the same of the term. -/
theorem behind (l m : List (List S31)) (a t c v : Int) (n : Bool) (k : Nat) (hk : 10 ≤ k) (hc : a = 1 → cell m t c = cell l t c) :
    watersmeetlaw05_TermRows.j1 k m a t c n v (if a = 1 then (cell l t c).1 else n) (if a = 1 then (cell l t c).2 else v) = some true := by
  obtain ⟨k, rfl⟩ : ∃ q, k = q + 4 := ⟨k - 4, by omega⟩
  rw [watersmeetlaw05_TermRows.j1]
  by_cases ha : a = 1
  · subst ha
    rw [of_col, Option.bind_some, hc rfl, if_neg (by simp), if_pos rfl]
    have fin : ∀ b, b = decide (0 ≤ t ∧ t < m.length) → watersmeetlaw05_TermRows.j2 (k + 3) m b 1 t c n v = some true := by
      intro b hb
      rw [watersmeetlaw05_TermRows.j2]
      by_cases h : 0 ≤ t ∧ t < m.length
      · have hb' : b = true := by rw [hb]; simpa using h
        rw [if_pos hb', if_pos h.1, if_pos h.2, of_col, Option.bind_some, cell_same m t c t.toNat (by omega) (by omega), awake (by omega)]
        simp
      · have hb' : ¬ b = true := by rw [hb]; simpa using h
        rw [if_neg hb', of_col, Option.bind_some, cell_out m t c h, awake (by omega)]
        simp
    by_cases h0 : t ≥ 0
    · rw [if_pos h0]
      exact fin _ (by simp [show 0 ≤ t from h0])
    · rw [if_neg h0]
      exact fin _ (by simp; omega)
  · rw [of_val ha, Option.bind_some, if_neg ha, if_neg ha, if_neg (by simp), if_neg ha, awake (by omega)]
    simp

theorem TermRows : watersmeetlaw05_TermRows.Pure := by
  intro x l o hx hl ho
  obtain ⟨hl1, hl3, _⟩ := hl
  have hlen : l.length ≤ 9223372036854775807 := hl1
  obtain ⟨b, hb⟩ := few_f l hlen l.length 0 (by omega) (by omega)
  refine ⟨2 * l.length + 2 + 20, ?_⟩
  generalize hK : 2 * l.length + 2 + 20 = K
  unfold watersmeetlaw05_TermRows.f
  have hf : watersmeetlaw05_few.f K l = some b := hb _ (by omega)
  rw [hf, Option.bind_some]
  cases b with
  | false => rw [if_neg (by simp), awake (by omega)]; rfl
  | true =>
    have ho2 : 0 ≤ o ∧ o ≤ 255 := by
      have hmin : IntKind.u8.min = 0 := rfl
      have hmax : IntKind.u8.max = 255 := rfl
      simp only [Lit.wf, Bool.and_eq_true, decide_eq_true_eq] at ho
      omega
    have e64 : wrap64 (Int.tmod o 64) = o % 64 := by rw [Int.tmod_eq_emod_of_nonneg ho2.1]; unfold wrap64; omega
    rw [if_pos rfl, e64]
    have hb1 : ∀ m, (x.f0 = 1 → cell m x.f1 x.f2 = cell l x.f1 x.f2) → ∀ k, 10 ≤ k → watersmeetlaw05_TermRows.j1 k m x.f0 x.f1 x.f2 x.f3.f0 x.f3.f1 (if x.f0 = 1 then (cell l x.f1 x.f2).1 else x.f3.f0) (if x.f0 = 1 then (cell l x.f1 x.f2).2 else x.f3.f1) = some true :=
      fun m hm k hk => behind l m x.f0 x.f1 x.f2 x.f3.f1 x.f3.f0 k hk hm
    have hof : term_Of.f x.f0 x.f1 x.f2 x.f3.f0 x.f3.f1 l = some (if x.f0 = 1 then (cell l x.f1 x.f2).1 else x.f3.f0, if x.f0 = 1 then (cell l x.f1 x.f2).2 else x.f3.f1) := by
      by_cases ha : x.f0 = 1
      · rw [if_pos ha, if_pos ha, ha, of_col]
      · rw [if_neg ha, if_neg ha, of_val ha]
    rw [hof, Option.bind_some, Option.bind_some, if_pos (by simp; omega), Option.bind_some, List.nil_append]
    have j0 : ∀ q k, 12 ≤ k → (q = true → o % 64 < (l.length : Int) ∧ (x.f0 = 1 → o % 64 ≠ x.f1)) → watersmeetlaw05_TermRows.j0 k l (o % 64) q x.f0 x.f1 x.f2 x.f3.f0 x.f3.f1 (if x.f0 = 1 then (cell l x.f1 x.f2).1 else x.f3.f0) (if x.f0 = 1 then (cell l x.f1 x.f2).2 else x.f3.f1) = some true := by
      intro q k hk hq
      obtain ⟨k, rfl⟩ : ∃ m, k = m + 1 := ⟨k - 1, by omega⟩
      rw [watersmeetlaw05_TermRows.j0]
      cases q with
      | true =>
        obtain ⟨h1, h2⟩ := hq rfl
        rw [if_pos rfl, if_pos (by omega), if_pos h1]
        exact hb1 _ (fun ha => cell_other l x.f1 x.f2 _ (by have := h2 ha; omega)) k (by omega)
      | false => rw [if_neg (by simp)]; exact hb1 _ (fun _ => rfl) k (by omega)
    dsimp only
    by_cases h1 : o % 64 < (l.length : Int)
    · rw [if_pos h1]
      by_cases ha : x.f0 = 1
      · rw [if_pos ha]
        exact j0 _ K (by omega) (fun hq => ⟨h1, fun _ => by simpa using hq⟩)
      · rw [if_neg ha]
        exact j0 _ K (by omega) (fun hq => ⟨h1, fun h => absurd h ha⟩)
    · rw [if_neg h1]
      exact j0 _ K (by omega) (fun hq => by simp at hq)
end Go.Proofs.Ytjjhdfpdoopedaa.Pure
