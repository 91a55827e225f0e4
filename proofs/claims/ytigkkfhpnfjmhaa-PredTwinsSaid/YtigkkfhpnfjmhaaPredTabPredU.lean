/- What pred.Tables comes to, for predicates that are not great: a set that holds each table that a term within names. -/
import Derived.Test.YtigkkfhpnfjmhaaPPredUx7
import Derived.Test.YtigkkfhpnfjmhaaSetOfPredU
import Derived.Test.YtigkkfhpnfjmhaaPredOfPredU
namespace Go.Proofs.Ytigkkfhpnfjmhaa.PredTabPredU
open Go.RowKit Go.Proofs.Ytigkkfhpnfjmhaa.PPredU Go.Proofs.YtigkkfhpnfjmhaaW.PrintWords Go.Proofs.YtigkkfhpnfjmhaaW.PrintLast Go.Proofs.YtigkkfhpnfjmhaaW.PrintMore Go.Proofs.Ytigkkfhpnfjmhaa.Bits Go.Proofs.Ytigkkfhpnfjmhaa.SetOfPredU Go.Proofs.Ytigkkfhpnfjmhaa.PredOfPredU
set_option linter.unusedVariables false
set_option linter.unusedSimpArgs false

/-- How many predicates are within, so deep. -/
def nodes : Nat → SP → Nat
  | 0, _ => 0
  | m + 1, p => 1 + (p.f5.map (nodes m)).sum
theorem size_loop {m k : Nat} {p : SP} (hlen : p.f5.length ≤ 1099511627744)
    (ih : ∀ j, j < k → ∀ x ∈ p.f5, ∀ (most r : Int), most ≤ 1000 → sizeF j x most = some r → 1 ≤ r ∧ (r ≤ most ∨ r = 1) ∧ (r < most → r = nodes m x)) :
    ∀ (d i j : Nat) (most a r : Int), j ≤ k → i ≤ p.f5.length → p.f5.length - i = d → most ≤ 1000 → 1 ≤ a → (a ≤ most ∨ a = 1) →
      watersmeetref06_Size.l0 j most a (i : Int) p.f0 p.f1 p.f2 p.f3.f0 p.f3.f1 p.f3.f2 p.f3.f3.f0 p.f3.f3.f1 p.f4.f0 p.f4.f1 p.f4.f2 p.f4.f3.f0 p.f4.f3.f1 p.f5 = some r →
      1 ≤ r ∧ (r ≤ most ∨ r = 1) ∧ (r < most → r = a + (((p.f5.drop i).map (nodes m)).sum : Nat)) := by
  intro d
  induction d with
  | zero =>
    intro i j most a r hj hi hd hm ha hb h
    cases j with
    | zero => simp [watersmeetref06_Size.l0] at h
    | succ j =>
    rw [watersmeetref06_Size.l0, if_neg (by omega)] at h
    obtain rfl := Option.some.inj h
    rw [List.drop_of_length_le (by omega)]
    exact ⟨ha, hb, fun _ => by simp⟩
  | succ d ihd =>
    intro i j most a r hj hi hd hm ha hb h
    cases j with
    | zero => simp [watersmeetref06_Size.l0] at h
    | succ j =>
    have hlt : i < p.f5.length := by omega
    rw [watersmeetref06_Size.l0, if_pos (by omega)] at h
    by_cases hc : a < most
    · rw [if_pos hc, if_pos (by omega), rdP hlt] at h
      obtain ⟨t, h1, h2⟩ := Option.bind_eq_some_iff.1 h
      have ew : wrap64 (most - a) = most - a := by unfold wrap64; omega
      rw [ew] at h1
      obtain ⟨g1, g2, g3⟩ := ih j (by omega) p.f5[i] (List.getElem_mem _) (most - a) t (by omega) h1
      have ew2 : wrap64 (a + t) = a + t := by unfold wrap64; omega
      rw [ew2, wrap_succ (by omega)] at h2
      obtain ⟨q1, q2, q3⟩ := ihd (i + 1) j most (a + t) r (by omega) (by omega) (by omega) hm (by omega) (by omega) h2
      refine ⟨q1, q2, fun hr => ?_⟩
      have e := q3 hr
      rw [List.drop_eq_getElem_cons hlt, List.map_cons, List.sum_cons]
      have hs : (0 : Int) ≤ (((p.f5.drop (i + 1)).map (nodes m)).sum : Nat) := Int.natCast_nonneg _
      have := g3 (by omega)
      omega
    · rw [if_neg hc] at h
      obtain rfl := Option.some.inj h
      exact ⟨ha, hb, fun hr => absurd hr hc⟩
theorem size_nodes : ∀ (m : Nat) (p : SP), Bn m p → ∀ (k : Nat) (most r : Int), most ≤ 1000 → sizeF k p most = some r → 1 ≤ r ∧ (r ≤ most ∨ r = 1) ∧ (r < most → r = nodes m p) := by
  intro m
  induction m with
  | zero => intro p h; exact h.elim
  | succ m ih =>
    intro p hp k most r hm h
    obtain ⟨hlen, hx⟩ := bn_succ hp
    unfold sizeF at h
    cases k with
    | zero => simp [watersmeetref06_Size.f] at h
    | succ k =>
    rw [watersmeetref06_Size.f] at h
    obtain ⟨g1, g2, g3⟩ := size_loop (m := m) (k := k) hlen (fun j _ x hx' most r hm h => ih x (hx x hx') j most r hm h) p.f5.length 0 k most 1 r (Nat.le_refl _) (by omega) (by omega) hm (by omega) (by omega) (by simpa using h)
    refine ⟨g1, g2, fun hr => ?_⟩
    have := g3 hr
    rw [List.drop_zero] at this
    rw [this, nodes]; omega

/-- A table that is a member where it may be one. -/
def In (s : Nat) (t : ST) : Prop := t.f0 = 1 → 0 ≤ t.f1 → t.f1 < 64 → s.testBit t.f1.toNat = true
def Within (s : Nat) : Nat → SP → Prop
  | 0, _ => True
  | m + 1, p => In s p.f3 ∧ In s p.f4 ∧ ∀ x ∈ p.f5, Within s m x
theorem in_or {s t : Nat} {x : ST} (h : In s x) : In (s ||| t) x := fun a b c => by rw [Nat.testBit_or, h a b c]; rfl
theorem in_or' {s t : Nat} {x : ST} (h : In t x) : In (s ||| t) x := fun a b c => by rw [Nat.testBit_or, h a b c]; simp
theorem within_or {s t : Nat} : ∀ (m : Nat) (p : SP), Within s m p → Within (s ||| t) m p
  | 0, _, _ => trivial
  | m + 1, p, ⟨h1, h2, h3⟩ => ⟨in_or h1, in_or h2, fun x hx => within_or m x (h3 x hx)⟩
theorem within_or' {s t : Nat} {m : Nat} {p : SP} (h : Within t m p) : Within (s ||| t) m p := by rw [Nat.or_comm]; exact within_or m p h
/-- All words of a list together. -/
def orAll (l : List Nat) : Nat := l.foldl (· ||| ·) 0
theorem foldl_or : ∀ (l : List Nat) (a : Nat), l.foldl (· ||| ·) a = a ||| orAll l
  | [], a => by simp [orAll]
  | x :: l, a => by
    have e : orAll (x :: l) = x ||| orAll l := by
      show List.foldl (· ||| ·) (0 ||| x) l = _
      rw [Nat.zero_or, foldl_or l x]
    rw [List.foldl_cons, foldl_or l, e, Nat.or_assoc]
theorem orAll_append (l m : List Nat) : orAll (l ++ m) = orAll l ||| orAll m := by
  unfold orAll; rw [List.foldl_append, foldl_or]; rfl
theorem orAll_cons (x : Nat) (l : List Nat) : orAll (x :: l) = x ||| orAll l := by
  have := orAll_append [x] l
  simpa [orAll] using this
def Words (l : List Nat) : Prop := ∀ x ∈ l, x < 18446744073709551616
def casts (l : List Nat) : List Int := l.map (fun x : Nat => (x : Int))
theorem words_append {l m : List Nat} (h : Words l) (g : Words m) : Words (l ++ m) := fun x hx => by
  rcases List.mem_append.1 hx with h1 | h1
  · exact h x h1
  · exact g x h1
theorem casts_append (l m : List Nat) : casts (l ++ m) = casts l ++ casts m := by simp [casts]
theorem casts_len (l : List Nat) : (casts l).length = l.length := by simp [casts]
theorem ttab_f (t : ST) {k : Nat} (hk : 1 < k) : ∃ s : Nat, term_Tables.f k t.f0 t.f1 t.f2 t.f3.f0 t.f3.f1 = some (s : Int) ∧ s < 18446744073709551616 ∧ In s t := by
  unfold term_Tables.f
  by_cases h : t.f0 = 1
  · refine ⟨ofs [t.f1], by rw [if_pos h, of_f [t.f1] (by simp) (by simpa using hk)]; rfl, ofs_lt _, fun _ h0 h1 => ?_⟩
    rw [testBit_ofs]
    have e : ((t.f1.toNat : Nat) : Int) = t.f1 := by omega
    simp [memI, e]; omega
  · exact ⟨0, by rw [if_neg h]; rfl, by omega, fun h' => absurd h' h⟩
def gathF (k : Nat) (p : SP) := pred_gather_uint64_at_pred_Tables_1.f k p.f0 p.f1 p.f2 p.f3.f0 p.f3.f1 p.f3.f2 p.f3.f3.f0 p.f3.f3.f1 p.f4.f0 p.f4.f1 p.f4.f2 p.f4.f3.f0 p.f4.f3.f1 p.f5
/-- What is gathered of a predicate: a word for each predicate within. -/
structure Gath (m : Nat) (p : SP) (l : List Nat) : Prop where
  ev : ∃ K, ∀ k, K ≤ k → gathF k p = some (casts l)
  len : l.length = nodes m p
  wd : Words l
  wi : Within (orAll l) m p
theorem gath_list {m : Nat} : ∀ (l : List SP), (∀ x ∈ l, nodes m x ≤ 100000 → ∃ g, Gath m x g) → (l.map (nodes m)).sum ≤ 100000 → ∃ (gs : List (List Nat)) (K : Nat), ∃ (hg : gs.length = l.length), (∀ i (h : i < l.length), (gs[i]'(by omega)).length = nodes m l[i] ∧ Words (gs[i]'(by omega)) ∧ Within (orAll (gs[i]'(by omega))) m l[i]) ∧
    ∀ k, K ≤ k → ∀ i (h : i < l.length), gathF k l[i] = some (casts (gs[i]'(by omega)))
  | [], _, _ => ⟨[], 0, rfl, fun i h => absurd h (by simp), fun k _ i h => absurd h (by simp)⟩
  | x :: l, h, hs => by
    rw [List.map_cons, List.sum_cons] at hs
    obtain ⟨g, ⟨K1, h1⟩, hl, hw, hi⟩ := h x (by simp) (by omega)
    obtain ⟨gs, K2, hg, h3, h2⟩ := gath_list l (fun y hy => h y (by simp [hy])) (by omega)
    refine ⟨g :: gs, K1 + K2, by simp [hg], fun i h => ?_, fun k hk i h => ?_⟩
    · cases i with
      | zero => exact ⟨hl, hw, hi⟩
      | succ i => exact h3 i (by simpa using h)
    · cases i with
      | zero => exact h1 k (by omega)
      | succ i => exact h2 k (by omega) i (by simpa using h)
theorem gath_loop {m K : Nat} {l : List SP} {gs : List (List Nat)} (hlen : l.length ≤ 1099511627744) (hg : gs.length = l.length) (hs : (l.map (nodes m)).sum ≤ 100000)
    (h3 : ∀ i (h : i < l.length), (gs[i]'(by omega)).length = nodes m l[i]) (h2 : ∀ k, K ≤ k → ∀ i (h : i < l.length), gathF k l[i] = some (casts (gs[i]'(by omega)))) :
    ∀ (d i k : Nat) (a : List Nat), i ≤ l.length → l.length - i = d → K + d < k → a.length ≤ 200000 → pred_gather_uint64_at_pred_Tables_1.l0 k (casts a) l (l.length : Int) (i : Int) = some (casts (a ++ (gs.drop i).flatten)) ∨ a.length + ((l.drop i).map (nodes m)).sum > 200000 := by
  intro d
  induction d with
  | zero =>
    intro i k a hi hd hk ha
    obtain ⟨k, rfl⟩ : ∃ m, k = m + 1 := ⟨k - 1, by omega⟩
    left
    rw [pred_gather_uint64_at_pred_Tables_1.l0, if_neg (by omega), List.drop_of_length_le (by omega)]; simp
  | succ d ih =>
    intro i k a hi hd hk ha
    obtain ⟨k, rfl⟩ : ∃ m, k = m + 1 := ⟨k - 1, by omega⟩
    have hlt : i < l.length := by omega
    have e := h2 k (by omega) i hlt
    unfold gathF at e
    by_cases hb : a.length + ((l.drop i).map (nodes m)).sum > 200000
    · exact .inr hb
    left
    rw [List.drop_eq_getElem_cons hlt, List.map_cons, List.sum_cons] at hb
    have hl := h3 i hlt
    rw [pred_gather_uint64_at_pred_Tables_1.l0, if_pos (by omega), if_pos (by omega), if_pos (by omega), rdP hlt, e, Option.bind_some, casts_len, casts_len, if_pos (by omega), wrap_succ (by omega), ← casts_append]
    rcases ih (i + 1) k (a ++ gs[i]'(by omega)) (by omega) (by omega) (by omega) (by rw [List.length_append]; omega) with h | h
    · rw [h, List.drop_eq_getElem_cons (by omega : i < gs.length), List.flatten_cons, List.append_assoc]
    · rw [List.length_append] at h; omega
theorem flat_facts {m : Nat} : ∀ (l : List SP) (gs : List (List Nat)), (hg : gs.length = l.length) → (∀ i (h : i < l.length), (gs[i]'(by omega)).length = nodes m l[i] ∧ Words (gs[i]'(by omega)) ∧ Within (orAll (gs[i]'(by omega))) m l[i]) →
    gs.flatten.length = (l.map (nodes m)).sum ∧ Words gs.flatten ∧ ∀ x ∈ l, Within (orAll gs.flatten) m x
  | [], [], _, _ => ⟨rfl, fun x hx => by simp at hx, fun x hx => by simp at hx⟩
  | [], g :: gs, hg, _ => by simp at hg
  | x :: l, [], hg, _ => by simp at hg
  | x :: l, g :: gs, hg, h => by
    obtain ⟨a1, a2, a3⟩ := flat_facts l gs (by simpa using hg) (fun i hi => h (i + 1) (by simpa using hi))
    obtain ⟨b1, b2, b3⟩ := h 0 (by simp)
    simp only [List.getElem_cons_zero] at b1 b2 b3
    rw [List.flatten_cons]
    refine ⟨by rw [List.length_append, List.map_cons, List.sum_cons, a1, b1], words_append b2 a2, fun y hy => ?_⟩
    rw [orAll_append]
    rcases List.mem_cons.1 hy with rfl | hy
    · exact within_or m _ b3
    · exact within_or' (a3 y hy)
theorem gath : ∀ (m : Nat) (p : SP), Bn m p → nodes m p ≤ 100000 → ∃ g, Gath m p g := by
  intro m
  induction m with
  | zero => intro p h; exact h.elim
  | succ m ih =>
    intro p hp hn
    obtain ⟨hlen, hx⟩ := bn_succ hp
    rw [nodes] at hn
    obtain ⟨gs, K, hg, h3, h2⟩ := gath_list p.f5 (fun x hx' => ih x (hx x hx')) (by omega)
    obtain ⟨f1, f2, f3⟩ := flat_facts p.f5 gs hg h3
    obtain ⟨s, e1, w1, i1⟩ := ttab_f p.f3 (k := 2) (by omega)
    obtain ⟨t, e2, w2, i2⟩ := ttab_f p.f4 (k := 2) (by omega)
    have up : ∀ k, 2 ≤ k → ∀ (x : ST) (v : Int), term_Tables.f 2 x.f0 x.f1 x.f2 x.f3.f0 x.f3.f1 = some v → term_Tables.f k x.f0 x.f1 x.f2 x.f3.f0 x.f3.f1 = some v := by
      intro k hk x v h
      induction hk with
      | refl => exact h
      | step _ ihk => exact term_Tables.mono _ _ _ _ _ _ _ ihk
    refine ⟨(s ||| t) :: gs.flatten, ⟨K + p.f5.length + 10, fun k hk => ?_⟩, ?_, ?_, ?_⟩
    · obtain ⟨k, rfl⟩ : ∃ m, k = m + 1 := ⟨k - 1, by omega⟩
      unfold gathF
      rw [pred_gather_uint64_at_pred_Tables_1.f, pred_Tables_1.f, up k (by omega) p.f3 _ e1, Option.bind_some, up k (by omega) p.f4 _ e2, Option.bind_some, Option.bind_some, or_cast w1 w2]
      rcases gath_loop (m := m) hlen hg (by omega) (fun i h => (h3 i h).1) h2 p.f5.length 0 k [s ||| t] (by omega) (by omega) (by omega) (by simp) with h | h
      · rw [List.drop_zero] at h
        exact h
      · rw [List.drop_zero] at h
        simp at h; omega
    · rw [List.length_cons, f1, nodes]; omega
    · intro x hx'
      rcases List.mem_cons.1 hx' with rfl | h
      · exact or_lt w1 w2
      · exact f2 x h
    · rw [orAll_cons]
      exact ⟨in_or (in_or i1), in_or (in_or' i2), fun x hx' => within_or' (f3 x hx')⟩
theorem tab_loop {l : List Nat} (hw : Words l) (hl : l.length ≤ 9223372036854775807) : ∀ (d i k a : Nat), i ≤ l.length → l.length - i = d → d < k → a < 18446744073709551616 → pred_Tables.l0 k (a : Int) (casts l) ((casts l).length : Int) (i : Int) = some ((a ||| orAll (l.drop i) : Nat) : Int) := by
  intro d
  induction d with
  | zero =>
    intro i k a hi hd hk ha
    obtain ⟨k, rfl⟩ : ∃ m, k = m + 1 := ⟨k - 1, by omega⟩
    rw [pred_Tables.l0, if_neg (by rw [casts_len]; omega), List.drop_of_length_le (by omega)]; simp [orAll]
  | succ d ih =>
    intro i k a hi hd hk ha
    obtain ⟨k, rfl⟩ : ∃ m, k = m + 1 := ⟨k - 1, by omega⟩
    have hlt : i < l.length := by omega
    have hx := hw l[i] (List.getElem_mem _)
    have e : rd (casts l) (i : Int) = ((l[i] : Nat) : Int) := by rw [rdI (by rw [casts_len]; omega)]; simp [casts]
    rw [pred_Tables.l0, if_pos (by rw [casts_len]; omega), if_pos (by omega), if_pos (by rw [casts_len]; omega), e, or_cast ha hx, wrap_succ (by omega), ih (i + 1) k _ (by omega) (by omega) (by omega) (or_lt ha hx), List.drop_eq_getElem_cons hlt, orAll_cons, Nat.or_assoc]
def tabF (k : Nat) (p : SP) := pred_Tables.f k p.f0 p.f1 p.f2 p.f3.f0 p.f3.f1 p.f3.f2 p.f3.f3.f0 p.f3.f3.f1 p.f4.f0 p.f4.f1 p.f4.f2 p.f4.f3.f0 p.f4.f3.f1 p.f5
theorem orAll_lt : ∀ (l : List Nat), Words l → orAll l < 18446744073709551616
  | [], _ => by decide
  | x :: l, h => by rw [orAll_cons]; exact or_lt (h x (by simp)) (orAll_lt l (fun y hy => h y (by simp [hy])))
theorem tables_ev {m : Nat} {p : SP} (hp : Bn m p) (hn : nodes m p ≤ 100000) : ∃ (s K : Nat), s < 18446744073709551616 ∧ Within s m p ∧ ∀ k, K ≤ k → tabF k p = some (s : Int) := by
  obtain ⟨g, ⟨K, hK⟩, hl, hw, hi⟩ := gath m p hp hn
  refine ⟨orAll g, K + g.length + 1, orAll_lt g hw, hi, fun k hk => ?_⟩
  have e := hK k (by omega)
  unfold gathF at e
  unfold tabF pred_Tables.f
  rw [e, Option.bind_some]
  have := tab_loop hw (by omega) g.length 0 k 0 (by omega) (by omega) (by omega) (by omega)
  rw [List.drop_zero, Nat.zero_or] at this
  exact this
end Go.Proofs.Ytigkkfhpnfjmhaa.PredTabPredU
