/- RejectMeans: for all predicates, null tables and rows, predicates that reject the null tables are never true of rows in which these tables' columns are null; the chapter's examples hold. No condition beyond the row's own. -/
import Derived.Test.YtigkkfhpnfjmhaaPRejMx7
import Derived.Test.YtigkkfhpnfjmhaaOfMayRejM
import Derived.Test.YtigkkfhpnfjmhaaRefHasRejM
namespace Go.Proofs.Ytigkkfhpnfjmhaa.Pure
open Go.RowKit Go.Proofs.Ytigkkfhpnfjmhaa.PRejM Go.Proofs.YtigkkfhpnfjmhaaW.PrintWords Go.Proofs.YtigkkfhpnfjmhaaW.PrintLast Go.Proofs.YtigkkfhpnfjmhaaW.PrintMore Go.Proofs.Ytigkkfhpnfjmhaa.Bits Go.Proofs.Ytigkkfhpnfjmhaa.SetHasRejM Go.Proofs.Ytigkkfhpnfjmhaa.MayOfRejM Go.Proofs.Ytigkkfhpnfjmhaa.OfMayRejM
set_option linter.unusedVariables false
set_option linter.unusedSimpArgs false

def NV : SV := ⟨true, 0⟩
/-- A twin's row. -/
def tw (n : Nat) (rows : List (List SV)) (j : Nat) : List SV := if hasB n (j : Int) = true then (rows.getD j []).map (fun _ => NV) else rows.getD j []
def twin (n : Nat) (rows : List (List SV)) (i : Nat) : List (List SV) := (List.range i).map (tw n rows)
theorem twin_succ (n : Nat) (rows : List (List SV)) (i : Nat) : twin n rows (i + 1) = twin n rows i ++ [tw n rows i] := by simp [twin, List.range_succ]
theorem twin_len (n : Nat) (rows : List (List SV)) (i : Nat) : (twin n rows i).length = i := by simp [twin]
theorem twin_nul (n : Nat) (rows : List (List SV)) : Nul n (twin n rows rows.length) := by
  intro t c h
  unfold cell
  rw [twin_len]
  by_cases h1 : 0 ≤ t ∧ t < (rows.length : Int)
  · rw [if_pos h1]
    have hlt : t.toNat < rows.length := by omega
    have e0 : ((t.toNat : Nat) : Int) = t := by omega
    have e1 : (twin n rows rows.length).getD t.toNat [] = (rows.getD t.toNat []).map (fun _ => NV) := by
      have : (twin n rows rows.length).getD t.toNat [] = tw n rows t.toNat := by simp [twin, hlt]
      rw [this, tw, e0, if_pos h]
    rw [e1]
    generalize rows.getD t.toNat [] = x
    rw [List.length_map]
    by_cases h2 : 0 ≤ c ∧ c < (x.length : Int)
    · rw [if_pos h2]
      have hc : c.toNat < x.length := by omega
      simp [hc, NV]
    · rw [if_neg h2]
  · rw [if_neg h1]
/-- A row, of which so many columns are null. -/
def pre (x : List SV) (j : Nat) : List SV := List.replicate j NV ++ x.drop j
theorem pre_len (x : List SV) (j : Nat) (h : j ≤ x.length) : (pre x j).length = x.length := by simp [pre]; omega
theorem pre_succ (x : List SV) (j : Nat) (h : j < x.length) : (pre x j).set j NV = pre x (j + 1) := by
  unfold pre
  rw [List.set_append_right _ _ (by simp), List.length_replicate, Nat.sub_self, List.drop_eq_getElem_cons h, List.set_cons_zero, List.replicate_succ', List.append_assoc]; rfl
theorem pre_all (x : List SV) : pre x x.length = x.map (fun _ => NV) := by
  unfold pre
  rw [List.drop_length, List.append_nil]
  exact List.map_const'.symm
theorem rdR (l : List (List SV)) (i : Nat) : rd_L6 l (i : Int) = l.getD i [] := by unfold rd_L6; rw [Int.toNat_natCast]
theorem small_ {a b : Nat} (e : a = b) (m : Nat) (h : b < m) : a < m := e ▸ h
theorem RejectMeans : watersmeetlaw07_RejectMeans.Pure := by
  intro l n rows hl hw hr
  obtain ⟨n, rfl, hn⟩ := wd_nat (show (Lit.int .u64 n).wf = true from hw)
  have hlen : l.length ≤ 1099511627744 := by have := hl.2.1; omega
  have hrl : rows.length ≤ 5864062014720 := by have := hr.2.1; omega
  have hrx : ∀ x ∈ rows, x.length ≤ 8796093022080 := fun x hx => by have := (hr.2.2 x hx).2.1; omega
  obtain ⟨m, hl1, hl2⟩ := bs_of hl
  obtain ⟨K1, b, hf⟩ := few_some m l hl1 hl2
  obtain ⟨K2, hA⟩ := awake_ev
  obtain ⟨K3, hT⟩ := mays hn m l hl2
  have hN := twin_nul n rows
  obtain ⟨v, hv, hv3, K4, hall⟩ := all_may hN hlen hl2
  obtain ⟨vs, K5, ht, h3, hF, hO⟩ := list_fit (T := mayV n m) (r := twin n rows rows.length) l (fun x hx' => of_may hN m x (hl2 x hx'))
  clear hr hl hw
  have hend : ∀ (d i k : Nat), i ≤ l.length → l.length - i = d → K1 + K2 + K3 + K4 + K5 + l.length + d + 40 < k → watersmeetlaw07_RejectMeans.l2 k l (n : Int) (twin n rows rows.length) (i : Int) = some true := by
    intro d
    induction d with
    | zero =>
      intro i k hi hd hk
      obtain ⟨k, rfl⟩ : ∃ m, k = m + 1 := ⟨k - 1, by omega⟩
      rw [watersmeetlaw07_RejectMeans.l2, if_neg (by omega), rejects_f (m := m) hl1 hT (by omega), Option.bind_some]
      cases hq : (allV n m l).2.2 with
      | true => rw [if_neg (by simp), hA _ (by omega)]; rfl
      | false =>
        have hv2 : ¬ v = 2 := by
          intro e
          rw [e] at hv
          have : tv (allV n m l) 2 = (allV n m l).2.2 := rfl
          rw [this, hq] at hv
          exact absurd hv (by simp)
        rw [if_pos (show (!false) = true from rfl), hall _ (by omega), Option.bind_some, if_neg hv2, hA _ (by omega)]; rfl
    | succ d ih =>
      intro i k hi hd hk
      obtain ⟨k, rfl⟩ : ∃ m, k = m + 1 := ⟨k - 1, by omega⟩
      have hlt : i < l.length := by omega
      have h1 := hO k (by omega) i hlt
      have h2 := hT k (by omega) i hlt
      have h4 := fit_at hF i hlt (by omega)
      have h5 := h3 (vs[i]'(by omega)) (List.getElem_mem _)
      have hnext := ih (i + 1) k (by omega) (by omega) (by omega)
      unfold ofF at h1
      unfold mayF at h2
      rw [watersmeetlaw07_RejectMeans.l2, if_pos (by omega), if_pos (by omega), rdP hlt, h1, Option.bind_some]
      generalize vs[i]'(by omega) = v at h4 h5
      rw [if_neg (by rcases h5 with h | h | h <;> omega), if_neg (by rcases h5 with h | h | h <;> omega), h2, Option.bind_some, wrap_succ (by omega), hnext]
      generalize mayV n m l[i] = T at h4
      obtain ⟨a0, a1, a2⟩ := T
      rcases h5 with rfl | rfl | rfl
      · have : a0 = true := h4
        subst this; rfl
      · have : a1 = true := h4
        subst this; rfl
      · have : a2 = true := h4
        subst this; rfl
  have hloop : ∀ (d i k : Nat), i ≤ rows.length → rows.length - i = d → K1 + K2 + K3 + K4 + K5 + 2 * l.length + 50 + 40 * d < k → watersmeetlaw07_RejectMeans.l0 k l (n : Int) rows (twin n rows i) (i : Int) = some true := by
    intro d
    induction d with
    | zero =>
      intro i k hi hd hk
      obtain ⟨k, rfl⟩ : ∃ m, k = m + 1 := ⟨k - 1, by omega⟩
      obtain rfl : i = rows.length := by omega
      rw [watersmeetlaw07_RejectMeans.l0, if_neg (by omega)]
      exact hend l.length 0 k (by omega) (by omega) (by omega)
    | succ d ih =>
      intro i k hi hd hk
      obtain ⟨k, rfl⟩ : ∃ m, k = m + 1 := ⟨k - 1, by omega⟩
      have hlt : i < rows.length := by omega
      have hx := hrx rows[i] (List.getElem_mem _)
      have e : rows.getD i [] = rows[i] := by simp [hlt]
      have hap : (twin n rows i).length < 5864062014805 := small_ (twin_len n rows i) _ (by omega)
      have hh := Go.Proofs.Ytigkkfhpnfjmhaa.RefHasRejM.ref_has_f hn (i : Int) (k := k) (by omega)
      have hb : Go.Proofs.Ytigkkfhpnfjmhaa.RefHasRejM.hasB n (i : Int) = hasB n (i : Int) := rfl
      rw [hb] at hh
      rw [watersmeetlaw07_RejectMeans.l0, if_pos (by omega), if_pos (by omega), rdR, e]
      by_cases h20 : (rows[i].length : Int) > 20
      · rw [if_pos h20, hA _ (by omega)]; rfl
      · rw [if_neg h20, Option.bind_some, if_pos (by rw [List.length_nil]; omega), List.nil_append, Option.bind_some, hh, Option.bind_some]
        have hn2 : ∀ k, K1 + K2 + K3 + K4 + K5 + 2 * l.length + 50 + 40 * d < k → watersmeetlaw07_RejectMeans.l0 k l (n : Int) rows (twin n rows i ++ [tw n rows i]) (wrap64 ((i : Int) + 1)) = some true := by
          intro k hk
          rw [wrap_succ (by omega), ← twin_succ]
          exact ih (i + 1) k (by omega) (by omega) hk
        cases hq : hasB n (i : Int) with
        | false =>
          have et : tw n rows i = rows[i] := by rw [tw, if_neg (by rw [hq]; simp), e]
          have := hn2 k (by omega)
          rw [et] at this
          rw [if_neg (by simp), if_pos hap]; exact this
        | true =>
          rw [if_pos rfl]
          have et : tw n rows i = pre rows[i] rows[i].length := by rw [tw, if_pos hq, e, pre_all]
          have hin : ∀ (d2 j k : Nat), j ≤ rows[i].length → rows[i].length - j = d2 → K1 + K2 + K3 + K4 + K5 + 2 * l.length + 50 + 40 * d + d2 + 1 < k → watersmeetlaw07_RejectMeans.l1 k l (n : Int) rows (twin n rows i) (i : Int) (pre rows[i] j) (j : Int) = some true := by
            intro d2
            induction d2 with
            | zero =>
              intro j k hj hd2 hk
              obtain ⟨k, rfl⟩ : ∃ m, k = m + 1 := ⟨k - 1, by omega⟩
              obtain rfl : j = rows[i].length := by omega
              have := hn2 k (by omega)
              rw [et] at this
              rw [watersmeetlaw07_RejectMeans.l1, pre_len _ _ (Nat.le_refl _), if_neg (by omega), if_pos hap]; exact this
            | succ d2 ih2 =>
              intro j k hj hd2 hk
              obtain ⟨k, rfl⟩ : ∃ m, k = m + 1 := ⟨k - 1, by omega⟩
              have hjl : j < rows[i].length := by omega
              have hs := pre_succ rows[i] j hjl
              unfold NV at hs
              rw [watersmeetlaw07_RejectMeans.l1, pre_len _ _ (by omega), if_pos (by omega), if_pos (by omega), Int.toNat_natCast, hs, wrap_succ (by omega)]
              exact ih2 (j + 1) k (by omega) (by omega) (by omega)
          have := hin rows[i].length 0 k (by omega) (by omega) (by omega)
          simpa [pre] using this
  obtain ⟨S, hS⟩ : ∃ S, S = K1 + K2 + K3 + K4 + K5 + 2 * l.length + 60 + 40 * rows.length := ⟨_, rfl⟩
  have hyes : watersmeetlaw07_RejectMeans.j0 (S + 1) l (n : Int) rows true = some true := by
    rw [watersmeetlaw07_RejectMeans.j0, if_pos rfl, hA _ (by omega)]; rfl
  refine ⟨S + 1, ?_⟩
  unfold watersmeetlaw07_RejectMeans.f
  rw [hf _ (by omega), Option.bind_some]
  cases b with
  | false => rw [if_neg (by simp)]; exact hyes
  | true =>
    rw [if_pos rfl]
    cases decide ((rows.length : Int) > 64) with
    | true => exact hyes
    | false =>
      rw [watersmeetlaw07_RejectMeans.j0, if_neg (by simp)]
      have := hloop rows.length 0 S (by omega) (by omega) (by omega)
      simpa [twin] using this
end Go.Proofs.Ytigkkfhpnfjmhaa.Pure
