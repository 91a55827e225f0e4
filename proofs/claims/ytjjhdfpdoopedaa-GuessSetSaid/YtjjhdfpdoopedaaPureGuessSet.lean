/- GuessSet: for all edges and statistics, guess.Rows looks at nothing but the set's own tables and the edges within; the chapter's example holds. No condition beyond the row's own. -/
import Derived.Test.YtjjhdfpdoopedaaPGSetx4
import Derived.Test.YtjjhdfpdoopedaaGuessOfGSet
import Derived.Test.YtjjhdfpdoopedaaRefInGSet
import Derived.Test.YtjjhdfpdoopedaaGuessAwakeGSet
namespace Go.Proofs.Ytjjhdfpdoopedaa.Pure
open Go.RowKit Go.Proofs.Ytjjhdfpdoopedaa.PGSet Go.Proofs.YtjjhdfpdoopedaaW.PrintWords Go.Proofs.YtjjhdfpdoopedaaW.PrintLast Go.Proofs.YtjjhdfpdoopedaaW.PrintMore Go.Proofs.Ytjjhdfpdoopedaa.Bits Go.Proofs.Ytjjhdfpdoopedaa.SatMath Go.Proofs.Ytjjhdfpdoopedaa.Wd Go.Proofs.Ytjjhdfpdoopedaa.GuessOfGSet Go.Proofs.Ytjjhdfpdoopedaa.RefInGSet Go.Proofs.Ytjjhdfpdoopedaa.GuessAwakeGSet
set_option linter.unusedVariables false
set_option linter.unusedSimpArgs false

/-- The same rows, where the set's members are. -/
structure AgR (set : Nat) (R R' : List Int) : Prop where
  len : R'.length = R.length
  wd : ∀ x ∈ R', Wd x
  eq : ∀ j, j < 64 → set.testBit j = true → R'.getD j 0 = R.getD j 0
/-- The same shares, where an edge is within. -/
structure AgS (l : List S57) (set : Nat) (R R' : List Int) : Prop where
  len : R'.length = R.length
  wd : ∀ x ∈ R', Wd x
  eq : ∀ j, j < l.length → inB (l.getD j z57).f2.toNat set = true → R'.getD j 0 = R.getD j 0
theorem wd_set {R : List Int} (h : ∀ x ∈ R, Wd x) {v : Int} (hv : Wd v) (i : Nat) : ∀ x ∈ R.set i v, Wd x := by
  intro x hx
  rcases List.mem_or_eq_of_mem_set hx with h1 | rfl
  · exact h x h1
  · exact hv
theorem getD_set (R : List Int) (i j : Nat) (v : Int) (h : j ≠ i) : (R.set i v).getD j 0 = R.getD j 0 := by
  simp only [List.getD_eq_getElem?_getD]
  rw [List.getElem?_set_ne (Ne.symm h)]
theorem pick_ag {set : Nat} {R R' : List Int} (h : AgR set R R') : ∀ (m : List Int), (∀ x ∈ m, ∃ j : Nat, x = (j : Int) ∧ j < 64 ∧ set.testBit j = true) → pick R' m = pick R m
  | [], _ => rfl
  | x :: m, hm => by
    obtain ⟨j, rfl, h1, h2⟩ := hm x (by simp)
    rw [pick_cons, pick_cons, pick_ag h m (fun y hy => hm y (by simp [hy])), h.len]
    have e : rd R' (j : Int) = rd R (j : Int) := by simpa [rd] using h.eq j h1 h2
    rw [e]
theorem shares_ag {l : List S57} {set : Nat} {S S' : List Int} (h : AgS l set S S') : ∀ (d i : Nat) (n : Int), i + d = l.length → shares l S' set d i n = shares l S set d i n
  | 0, i, n, _ => rfl
  | d + 1, i, n, hd => by
    rw [shares, shares, h.len]
    by_cases c : i < S.length ∧ inB (l.getD i z57).f2.toNat set = true
    · rw [if_pos c, if_pos c, h.eq i (by omega) c.2]
      exact shares_ag h d (i + 1) _ (by omega)
    · rw [if_neg c, if_neg c]
      exact shares_ag h d (i + 1) _ (by omega)
theorem guessed_ag {l : List S57} {set : Nat} {R R' S S' : List Int} (h : AgR set R R') (g : AgS l set S S') : guessed l R' S' set = guessed l R S set := by
  unfold guessed
  rw [shares_ag g _ _ _ (by omega), pick_ag h]
  intro x hx
  obtain ⟨j, e, _, h2, h3⟩ := mem_in hx
  simp only [Bool.and_eq_true] at h3
  exact ⟨j, e, by omega, h3.1⟩

variable {l : List S57} {set : Nat} {R S T U : List Int}
theorem set_end (hl : l.length ≤ 9223372036854775807) (hw : ∀ e ∈ l, EOk e) (hs : set < 18446744073709551616) (hR : ∀ x ∈ R, Wd x) (hS : ∀ x ∈ S, Wd x) {R' S' : List Int} (aR : AgR set R R') (aS : AgS l set S S') (i : Nat) {k : Nat} (hk : l.length + 300 < k) :
    watersmeetlaw27_GuessSet.j4 k l (set : Int) (i : Int) false R S T U R' S' = some true := by
  obtain ⟨k, rfl⟩ : ∃ m, k = m + 1 := ⟨k - 1, by omega⟩
  rw [watersmeetlaw27_GuessSet.j4, if_neg (by simp), rows_f hl hw hR hS hs (by omega), Option.bind_some, rows_f hl hw aR.wd aS.wd hs (by omega), Option.bind_some, guessed_ag aR aS, if_pos rfl, awake (by omega)]
  rfl
theorem set_sel (hl : l.length ≤ 9223372036854775807) (hw : ∀ e ∈ l, EOk e) (hs : set < 18446744073709551616) (hR : ∀ x ∈ R, Wd x) (hS : ∀ x ∈ S, Wd x) (hU : ∀ x ∈ U, Wd x) (hlen : S.length ≤ 9223372036854775807) {R' : List Int} (aR : AgR set R R') :
    ∀ (d i k : Nat) (S' : List Int), i ≤ S.length → S.length - i = d → AgS l set S S' → 2 * d + l.length + 310 < k → watersmeetlaw27_GuessSet.l1 k l (set : Int) (i : Int) R S T U R' S' = some true := by
  intro d
  induction d with
  | zero =>
    intro i k S' hi hd aS hk
    obtain ⟨k, rfl⟩ : ∃ m, k = m + 1 := ⟨k - 1, by omega⟩
    have := aS.len
    rw [watersmeetlaw27_GuessSet.l1, if_neg (by omega)]
    exact set_end hl hw hs hR hS aR aS i (by omega)
  | succ d ih =>
    intro i k S' hi hd aS hk
    obtain ⟨k, rfl⟩ : ∃ m, k = m + 1 := ⟨k - 1, by omega⟩
    have hlS := aS.len
    rw [watersmeetlaw27_GuessSet.l1, if_pos (by omega)]
    by_cases h1 : i < U.length
    · rw [if_pos (by omega)]
      by_cases h2 : i < l.length
      · obtain ⟨k, rfl⟩ : ∃ m, k = m + 1 := ⟨k - 1, by omega⟩
        have he := (hw _ (List.getElem_mem h2)).1
        have hf : l[i].f2 = ((l[i].f2.toNat : Nat) : Int) := by have := he.1; omega
        have hin : watersmeetref01_In.f k l[i].f2 (set : Int) = some (inB l[i].f2.toNat set) := by
          have := ref_in_f (k := k) (a := l[i].f2.toNat) (by have := he.2; omega) hs (by omega)
          rw [← hf] at this; exact this
        have e1 : decide ((i : Int) < (l.length : Int)) = true := by simpa using h2
        rw [e1, watersmeetlaw27_GuessSet.j4, if_pos rfl, if_pos (by omega), if_pos (by omega), rdE h2, hin, Option.bind_some, wrap_succ (by omega)]
        by_cases h3 : inB l[i].f2.toNat set = true
        · rw [if_pos h3]
          exact ih (i + 1) k S' (by omega) (by omega) aS (by omega)
        · rw [if_neg h3, if_pos (by omega), if_pos (by omega), rd_nat h1, Int.toNat_natCast]
          refine ih (i + 1) k _ (by omega) (by omega) ⟨by rw [List.length_set]; exact hlS, wd_set aS.wd (hU _ (List.getElem_mem h1)) _, fun j hj hb => ?_⟩ (by omega)
          have hne : j ≠ i := fun e => by
            subst e
            have eg : l.getD j z57 = l[j] := by simp [h2]
            rw [eg] at hb; exact h3 hb
          rw [getD_set _ _ _ _ hne]
          exact aS.eq j hj hb
      · have e1 : decide ((i : Int) < (l.length : Int)) = false := by simp; omega
        rw [e1]
        exact set_end hl hw hs hR hS aR aS i (by omega)
    · rw [if_neg (by omega)]
      exact set_end hl hw hs hR hS aR aS i (by omega)
theorem set_rows (hl : l.length ≤ 9223372036854775807) (hw : ∀ e ∈ l, EOk e) (hs : set < 18446744073709551616) (hR : ∀ x ∈ R, Wd x) (hS : ∀ x ∈ S, Wd x) (hT : ∀ x ∈ T, Wd x) (hU : ∀ x ∈ U, Wd x) (hlen : S.length ≤ 9223372036854775807) (hlenR : R.length ≤ 9223372036854775807) :
    ∀ (d i k : Nat) (R' : List Int), i ≤ R.length → R.length - i = d → AgR set R R' → 2 * d + 2 * S.length + l.length + 400 < k → watersmeetlaw27_GuessSet.l0 k l (set : Int) (i : Int) R S T U R' S = some true := by
  have aS : AgS l set S S := ⟨rfl, hS, fun _ _ _ => rfl⟩
  have hend : ∀ (i k : Nat) (R' : List Int), AgR set R R' → 2 * S.length + l.length + 350 < k → watersmeetlaw27_GuessSet.j2 k l (set : Int) (i : Int) false R S T U R' S = some true := by
    intro i k R' aR hk
    obtain ⟨k, rfl⟩ : ∃ m, k = m + 1 := ⟨k - 1, by omega⟩
    rw [watersmeetlaw27_GuessSet.j2, if_neg (by simp)]
    exact set_sel hl hw hs hR hS hU hlen aR S.length 0 k S (by omega) (by omega) aS (by omega)
  intro d
  induction d with
  | zero =>
    intro i k R' hi hd aR hk
    obtain ⟨k, rfl⟩ : ∃ m, k = m + 1 := ⟨k - 1, by omega⟩
    have := aR.len
    rw [watersmeetlaw27_GuessSet.l0, if_neg (by omega)]
    exact hend i k R' aR (by omega)
  | succ d ih =>
    intro i k R' hi hd aR hk
    obtain ⟨k, rfl⟩ : ∃ m, k = m + 1 := ⟨k - 1, by omega⟩
    have hlR := aR.len
    rw [watersmeetlaw27_GuessSet.l0, if_pos (by omega)]
    by_cases h1 : i < T.length
    · obtain ⟨k, rfl⟩ : ∃ m, k = m + 1 := ⟨k - 1, by omega⟩
      have e1 : decide ((i : Int) < (T.length : Int)) = true := by simpa using h1
      rw [e1, watersmeetlaw27_GuessSet.j2, if_pos rfl, ref_has_any hs (by omega), Option.bind_some, wrap_succ (by omega)]
      by_cases h3 : (decide (i < 64) && set.testBit i) = true
      · rw [if_pos h3]
        exact ih (i + 1) k R' (by omega) (by omega) aR (by omega)
      · rw [if_neg h3, if_pos (by omega), if_pos (by omega), if_pos (by omega), rd_nat h1, Int.toNat_natCast]
        refine ih (i + 1) k _ (by omega) (by omega) ⟨by rw [List.length_set]; exact hlR, wd_set aR.wd (hT _ (List.getElem_mem h1)) _, fun j hj hb => ?_⟩ (by omega)
        have hne : j ≠ i := fun e => by
          subst e
          exact h3 (by simp [hj, hb])
        rw [getD_set _ _ _ _ hne]
        exact aR.eq j hj hb
    · have e1 : decide ((i : Int) < (T.length : Int)) = false := by simp; omega
      rw [e1]
      exact hend i k R' aR (by omega)

theorem few_true {l : List S57} {a b : List Int} (h : watersmeetlaw27_few.f l a b = some true) : l.length ≤ 60 ∧ a.length ≤ 100 ∧ b.length ≤ 100 := by
  unfold watersmeetlaw27_few.f at h
  split at h
  · split at h
    · simp at h; omega
    · simp at h
  · simp at h
theorem few_some (l : List S57) (a b : List Int) : ∃ r, watersmeetlaw27_few.f l a b = some r := by
  unfold watersmeetlaw27_few.f
  split
  · split
    · exact ⟨_, rfl⟩
    · exact ⟨_, rfl⟩
  · exact ⟨_, rfl⟩
theorem GuessSet : watersmeetlaw27_GuessSet.Pure := by
  intro l s t hl hs ht
  obtain ⟨hl1, _, hl2⟩ := hl
  obtain ⟨hs1, hs2⟩ := hs
  obtain ⟨ht1, ht2⟩ := ht
  have hlen : l.length ≤ 9223372036854775807 := hl1
  have hw : ∀ e ∈ l, EOk e := by
    intro e he
    obtain ⟨_, _, h2, _, h4⟩ := hl2 e he
    exact ⟨wd_of h2, wd_of h4⟩
  have hR : ∀ x ∈ s.f0, Wd x := fun x hx => wd_of (hs1.2.2 x hx)
  have hS : ∀ x ∈ s.f1, Wd x := fun x hx => wd_of (hs2.2.2 x hx)
  have hT : ∀ x ∈ t.f0, Wd x := fun x hx => wd_of (ht1.2.2 x hx)
  have hU : ∀ x ∈ t.f1, Wd x := fun x hx => wd_of (ht2.2.2 x hx)
  refine ⟨5000, ?_⟩
  have e5 : (5000 : Nat) = 4999 + 1 := rfl
  rw [e5]
  have hj : watersmeetlaw27_GuessSet.j0 (4999 + 1) l true s.f0 s.f1 t.f0 t.f1 = some true := by
    rw [watersmeetlaw27_GuessSet.j0, if_pos rfl, awake (by omega)]; rfl
  unfold watersmeetlaw27_GuessSet.f
  obtain ⟨r1, h1⟩ := few_some l s.f0 s.f1
  obtain ⟨r2, h2⟩ := few_some l t.f0 t.f1
  rw [h1, Option.bind_some]
  cases r1 with
  | false => rw [if_neg (by simp)]; exact hj
  | true =>
    rw [if_pos rfl, h2, Option.bind_some]
    cases r2 with
    | false => exact hj
    | true =>
      obtain ⟨a1, a2, a3⟩ := few_true h1
      obtain ⟨_, a4, a5⟩ := few_true h2
      rw [Bool.not_true, watersmeetlaw27_GuessSet.j0, if_neg (by simp)]
      simp only [Option.bind_some, List.length_nil, List.nil_append]
      rw [if_pos (by omega), if_pos (by omega)]
      have e1 : IntKind.u64.wrap (IntKind.u64.wrap (IntKind.u64.wrap (t.f0.length : Int) * 5) + IntKind.u64.wrap (t.f1.length : Int)) = ((t.f0.length * 5 + t.f1.length : Nat) : Int) := by
        simp only [IntKind.wrap_u64]; omega
      rw [e1]
      exact set_rows hlen hw (by omega) hR hS hT hU (by omega) (by omega) s.f0.length 0 4999 s.f0 (by omega) (by omega) ⟨rfl, hR, fun _ _ _ => rfl⟩ (by omega)
end Go.Proofs.Ytjjhdfpdoopedaa.Pure
