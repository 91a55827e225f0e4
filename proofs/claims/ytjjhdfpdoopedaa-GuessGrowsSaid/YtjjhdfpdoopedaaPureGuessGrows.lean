/- GuessGrows: for all edges and statistics, with a table's rows or an edge's share made greater guess.Rows is no less, and it is at least 1; the chapter's example holds. No condition beyond the row's own. -/
import Derived.Test.YtjjhdfpdoopedaaPGGrowx4
import Derived.Test.YtjjhdfpdoopedaaGuessOfGGrow
import Derived.Test.YtjjhdfpdoopedaaGuessAwakeGGrow
namespace Go.Proofs.Ytjjhdfpdoopedaa.Pure
open Go.RowKit Go.Proofs.Ytjjhdfpdoopedaa.PGGrow Go.Proofs.YtjjhdfpdoopedaaW.PrintWords Go.Proofs.YtjjhdfpdoopedaaW.PrintLast Go.Proofs.YtjjhdfpdoopedaaW.PrintMore Go.Proofs.Ytjjhdfpdoopedaa.Bits Go.Proofs.Ytjjhdfpdoopedaa.SatMath Go.Proofs.Ytjjhdfpdoopedaa.Wd Go.Proofs.Ytjjhdfpdoopedaa.GuessOfGGrow Go.Proofs.Ytjjhdfpdoopedaa.GuessAwakeGGrow
set_option linter.unusedVariables false
set_option linter.unusedSimpArgs false

/-- No less anywhere. -/
structure Ge (R R' : List Int) : Prop where
  len : R'.length = R.length
  wd : ∀ x ∈ R', Wd x
  ge : ∀ j : Nat, R.getD j 0 ≤ R'.getD j 0
theorem cap_le {a b : Int} (h : a ≤ b) : cap a ≤ cap b := by unfold cap; split <;> split <;> omega
theorem rd_wd {R : List Int} (h : ∀ x ∈ R, Wd x) (j : Nat) : Wd (R.getD j 0) := by
  by_cases c : j < R.length
  · have e : R.getD j 0 = R[j] := by simp [c]
    rw [e]; exact h _ (List.getElem_mem c)
  · have e : R.getD j 0 = 0 := by simp [c]
    rw [e]; exact ⟨by omega, by omega⟩
theorem mul_le {a b c d : Int} (h : a ≤ b) (g : c ≤ d) (h0 : 0 ≤ a) (g0 : 0 ≤ c) : a * c ≤ b * d := Int.mul_le_mul h g g0 (by omega)
theorem prod_pick_le {R R' : List Int} (hR : ∀ x ∈ R, Wd x) (h : Ge R R') : ∀ (m : List Int), (∀ x ∈ m, 0 ≤ x) → ∀ a b : Int, Wd a → Wd b → a ≤ b → prod a (pick R m) ≤ prod b (pick R' m)
  | [], _, a, b, _, _, hab => hab
  | x :: m, hm, a, b, ha, hb, hab => by
    have h0 := hm x (by simp)
    obtain ⟨j, rfl⟩ : ∃ j : Nat, x = (j : Int) := ⟨x.toNat, by omega⟩
    have hm' : ∀ x ∈ m, 0 ≤ x := fun y hy => hm y (by simp [hy])
    rw [pick_cons, pick_cons, h.len]
    by_cases c : (j : Int) < (R.length : Int)
    · rw [if_pos c, if_pos c, prod, prod]
      have e1 : rd R (j : Int) = R.getD j 0 := by simp [rd]
      have e2 : rd R' (j : Int) = R'.getD j 0 := by simp [rd]
      rw [e1, e2]
      have w1 := rd_wd hR j
      have w2 := rd_wd h.wd j
      exact prod_pick_le hR h m hm' _ _ (cap_wd (Int.mul_nonneg ha.1 w1.1)) (cap_wd (Int.mul_nonneg hb.1 w2.1)) (cap_le (mul_le hab (h.ge j) ha.1 w1.1))
    · rw [if_neg c, if_neg c]
      exact prod_pick_le hR h m hm' a b ha hb hab
theorem shares_le {l : List S57} {set : Nat} {S S' : List Int} (hS : ∀ x ∈ S, Wd x) (h : Ge S S') : ∀ (d i : Nat) (a b : Int), Wd a → Wd b → a ≤ b → shares l S set d i a ≤ shares l S' set d i b
  | 0, i, a, b, _, _, hab => hab
  | d + 1, i, a, b, ha, hb, hab => by
    rw [shares, shares, h.len]
    by_cases c : i < S.length ∧ inB (l.getD i z57).f2.toNat set = true
    · rw [if_pos c, if_pos c]
      have w1 := rd_wd hS i
      have w2 := rd_wd h.wd i
      exact shares_le hS h d (i + 1) _ _ (share_wd ha w1) (share_wd hb w2) (cap_le (Int.ediv_le_ediv (by omega) (mul_le hab (h.ge i) ha.1 w1.1)))
    · rw [if_neg c, if_neg c]
      exact shares_le hS h d (i + 1) a b ha hb hab
theorem mem_pos (p : Nat → Bool) : ∀ x ∈ mem p 0 64, (0 : Int) ≤ x := by
  intro x hx
  obtain ⟨j, rfl, _⟩ := mem_in hx
  omega
theorem guessed_le {l : List S57} {set : Nat} {R R' S S' : List Int} (hR : ∀ x ∈ R, Wd x) (hS : ∀ x ∈ S, Wd x) (h : Ge R R') (g : Ge S S') : guessed l R S set ≤ guessed l R' S' set := by
  unfold guessed
  have o : Wd (1 : Int) := ⟨by omega, by omega⟩
  have hp := mem_pos (fun j => set.testBit j && !hidB l j)
  have q1 := prod_pick_le hR h _ hp 1 1 o o (by omega)
  have q2 := shares_le (l := l) (set := set) hS g l.length 0 _ _ (prod_wd _ _ o (pick_wd hR hp)) (prod_wd _ _ o (pick_wd h.wd hp)) q1
  unfold mx
  repeat' split
  all_goals omega
theorem guessed_one (l : List S57) (set : Nat) (R S : List Int) : 1 ≤ guessed l R S set := by
  unfold guessed mx
  repeat' split
  all_goals omega
theorem ge_refl {R : List Int} (h : ∀ x ∈ R, Wd x) : Ge R R := ⟨rfl, h, fun _ => by omega⟩
theorem ge_set {R : List Int} (h : ∀ x ∈ R, Wd x) {i : Nat} {v : Int} (hv : Wd v) (hi : R.getD i 0 ≤ v) : Ge R (R.set i v) := by
  refine ⟨List.length_set, fun x hx => ?_, fun j => ?_⟩
  · rcases List.mem_or_eq_of_mem_set hx with h1 | rfl
    · exact h x h1
    · exact hv
  · by_cases c : j = i
    · subst c
      by_cases d : j < R.length
      · have e : (R.set j v).getD j 0 = v := by simp [d]
        rw [e]; exact hi
      · rw [List.set_eq_of_length_le (by omega)]; omega
    · have e : (R.set i v).getD j 0 = R.getD j 0 := by
        simp only [List.getD_eq_getElem?_getD]
        rw [List.getElem?_set_ne (Ne.symm c)]
      rw [e]; omega
theorem mx_wd {a b : Int} (ha : Wd a) (hb : Wd b) : Wd (mx a b) := by
  unfold mx
  split
  · exact hb
  · exact ha
theorem mx_left (a b : Int) : a ≤ mx a b := by
  unfold mx
  split <;> omega
theorem grows_end {l : List S57} {R S R' S' : List Int} {a b c : Int} (hl : l.length ≤ 9223372036854775807) (hw : ∀ e ∈ l, EOk e) (hR : ∀ x ∈ R, Wd x) (hS : ∀ x ∈ S, Wd x) (h : Ge R R') (g : Ge S S') (hc : Wd c) {k : Nat} (hk : l.length + 300 < k) :
    watersmeetlaw27_GuessGrows.j1 k l R S a b c R' S' = some true := by
  obtain ⟨k, rfl⟩ : ∃ m, k = m + 1 := ⟨k - 1, by omega⟩
  obtain ⟨set, rfl⟩ : ∃ s : Nat, c = (s : Int) := ⟨c.toNat, by have := hc.1; omega⟩
  have hs : set < 18446744073709551616 := by have := hc.2; omega
  rw [watersmeetlaw27_GuessGrows.j1, rows_f hl hw hR hS hs (by omega), Option.bind_some, rows_f hl hw h.wd g.wd hs (by omega), Option.bind_some, if_pos (guessed_le hR hS h g), Option.bind_some, if_pos (guessed_one l set R S), awake (by omega)]
  rfl
theorem tmod_nat {a n : Int} (ha : 0 ≤ a) (hn : 0 < n) : 0 ≤ Int.tmod a n ∧ Int.tmod a n < n := by
  rw [Int.tmod_eq_emod_of_nonneg ha]
  exact ⟨Int.emod_nonneg _ (by omega), Int.emod_lt_of_pos _ hn⟩
theorem grows_mid {l : List S57} {R S R' : List Int} {a b c : Int} (hl : l.length ≤ 9223372036854775807) (hw : ∀ e ∈ l, EOk e) (hR : ∀ x ∈ R, Wd x) (hS : ∀ x ∈ S, Wd x) (h : Ge R R') (ha : Wd a) (hb : Wd b) (hc : Wd c) (hlen : S.length ≤ 100) {k : Nat} (hk : l.length + 310 < k) :
    watersmeetlaw27_GuessGrows.j0 k l R S a b c R' S = some true := by
  obtain ⟨k, rfl⟩ : ∃ m, k = m + 1 := ⟨k - 1, by omega⟩
  have e : IntKind.u64.wrap (S.length : Int) = (S.length : Int) := u64_id (by omega) (by omega)
  rw [watersmeetlaw27_GuessGrows.j0, e]
  by_cases h0 : (S.length : Int) > 0
  · obtain ⟨q0, q1⟩ := tmod_nat ha.1 h0
    obtain ⟨j, hj⟩ : ∃ j : Nat, Int.tmod a (S.length : Int) = (j : Int) := ⟨(Int.tmod a (S.length : Int)).toNat, by omega⟩
    rw [hj] at q0 q1 ⊢
    have hr : rd S (j : Int) = S.getD j 0 := by simp [rd]
    rw [if_pos h0, if_neg (by omega), if_pos q0, if_pos q1, hr, Int.toNat_natCast]
    have hm : Wd (Int.tmod b 65537) := by
      obtain ⟨z0, z1⟩ := tmod_nat hb.1 (show (0 : Int) < 65537 by omega)
      exact ⟨z0, by omega⟩
    exact grows_end hl hw hR hS h (ge_set hS (mx_wd (rd_wd hS j) hm) (mx_left _ _)) hc (by omega)
  · rw [if_neg h0]
    exact grows_end hl hw hR hS h (ge_refl hS) hc (by omega)
theorem few_true {l : List S57} {a b : List Int} (h : watersmeetlaw27_few.f l a b = some true) : l.length ≤ 60 ∧ a.length ≤ 100 ∧ b.length ≤ 100 := by
  unfold watersmeetlaw27_few.f at h
  split at h
  · split at h
    · simp at h; omega
    · simp at h
  · simp at h
theorem few_some (l : List S57) (a b : List Int) : ∃ r, watersmeetlaw27_few.f l a b = some r := by
  unfold watersmeetlaw27_few.f
  split
  · split
    · exact ⟨_, rfl⟩
    · exact ⟨_, rfl⟩
  · exact ⟨_, rfl⟩
theorem GuessGrows : watersmeetlaw27_GuessGrows.Pure := by
  intro l s x hl hs hx
  obtain ⟨hl1, _, hl2⟩ := hl
  obtain ⟨hs1, hs2⟩ := hs
  obtain ⟨hx0, hx1, hx2⟩ := hx
  have ha := wd_of hx0
  have hb := wd_of hx1
  have hc := wd_of hx2
  have hlen : l.length ≤ 9223372036854775807 := hl1
  have hw : ∀ e ∈ l, EOk e := by
    intro e he
    obtain ⟨_, _, h2, _, h4⟩ := hl2 e he
    exact ⟨wd_of h2, wd_of h4⟩
  have hR : ∀ x ∈ s.f0, Wd x := fun x hx => wd_of (hs1.2.2 x hx)
  have hS : ∀ x ∈ s.f1, Wd x := fun x hx => wd_of (hs2.2.2 x hx)
  refine ⟨5000, ?_⟩
  have e5 : (5000 : Nat) = 4999 + 1 := rfl
  rw [e5]
  unfold watersmeetlaw27_GuessGrows.f
  obtain ⟨r1, h1⟩ := few_some l s.f0 s.f1
  rw [h1, Option.bind_some]
  cases r1 with
  | false => rw [if_neg (by simp), awake (by omega)]; rfl
  | true =>
    obtain ⟨a1, a2, a3⟩ := few_true h1
    have e : IntKind.u64.wrap (s.f0.length : Int) = (s.f0.length : Int) := u64_id (by omega) (by omega)
    rw [if_pos rfl, e]
    simp only [Option.bind_some, List.length_nil, List.nil_append]
    rw [if_pos (by omega), if_pos (by omega)]
    by_cases h0 : (s.f0.length : Int) > 0
    · obtain ⟨q0, q1⟩ := tmod_nat ha.1 h0
      obtain ⟨j, hj⟩ : ∃ j : Nat, Int.tmod x.f0 (s.f0.length : Int) = (j : Int) := ⟨(Int.tmod x.f0 (s.f0.length : Int)).toNat, by omega⟩
      rw [hj] at q0 q1 ⊢
      have hr : rd s.f0 (j : Int) = s.f0.getD j 0 := by simp [rd]
      rw [if_pos h0, if_neg (by omega), if_pos q0, if_pos q1, hr, Int.toNat_natCast]
      exact grows_mid hlen hw hR hS (ge_set hR (mx_wd (rd_wd hR j) hb) (mx_left _ _)) ha hb hc a3 (by omega)
    · rw [if_neg h0]
      exact grows_mid hlen hw hR hS (ge_refl hR) ha hb hc a3 (by omega)
end Go.Proofs.Ytjjhdfpdoopedaa.Pure
