/- Predicates made simpler: no greater, no table more, the same truth. -/
import Derived.Laws.BitsAllLaws
import Derived.Test.YtekdlkjonihglaaYS1
import Derived.Test.YtekdlkjonihglaaYF26
import Derived.Test.YtekdlkjonihglaaYF27
namespace Go.Proofs.Ytekdlkjonihglaa.AL
open Go
set_option linter.unusedVariables false
set_option linter.unusedSimpArgs false
set_option maxRecDepth 4000
/-! ### No greater -/
def szN (p : Prd) : Nat := (gathF tab1F p).length
def sumN (l : List Prd) : Nat := (l.map szN).sum
theorem gathL_sum : ∀ l : List Prd, (gathL tab1F l).length = sumN l
  | [] => rfl
  | x :: l => by simp only [gathL, List.length_append, gathL_sum l, sumN, List.map_cons, List.sum_cons, szN]
theorem szN_eq (p : Prd) : szN p = 1 + sumN p.parts := by
  unfold szN; rw [gathF_eq, List.length_append, gathL_sum]; simp [tab1F]
theorem truth_sz (t : Int) : szN (truthP t) = 1 := by rw [szN_eq]; rfl
theorem sum_mem {x : Prd} {l : List Prd} (h : x ∈ l) : szN x ≤ sumN l := by
  induction l with
  | nil => simp at h
  | cons y l ih =>
    simp only [sumN, List.map_cons, List.sum_cons] at ih ⊢
    rcases List.mem_cons.1 h with rfl | h
    · omega
    · have := ih h; omega
theorem open_sum (kind : Int) : ∀ l : List Prd, sumN (openF kind l) ≤ sumN l
  | [] => Nat.le_refl _
  | x :: l => by
    have ih := open_sum kind l
    unfold openF at ih ⊢
    rw [List.flatMap_cons]
    simp only [sumN, List.map_append, List.sum_append, List.map_cons, List.sum_cons] at ih ⊢
    have : ((if x.kind = kind then x.parts else [x]).map szN).sum ≤ szN x := by
      split
      · have := szN_eq x; simp only [sumN] at this; omega
      · simp
    omega
theorem flat_sum (kind : Int) (l : List Prd) : sumN (flatP kind l) ≤ sumN l := by
  unfold flatP; split
  · exact Nat.le_refl _
  · exact open_sum kind l
theorem pack_sz (kind w : Int) (l : List Prd) : szN (packF kind w l) ≤ 1 + sumN l := by
  match l with
  | [] => rw [show packF kind w [] = truthP w from rfl, truth_sz]; omega
  | [x] => simp [packF, sumN]
  | x :: y :: l => rw [show packF kind w (x :: y :: l) = .mk kind 0 0 trmZ trmZ (x :: y :: l) from rfl, szN_eq]; exact Nat.le_refl _
theorem many_sz (kind w a : Int) (l : List Prd) : szN (manyF kind w a l) ≤ 1 + sumN l := by
  unfold manyF
  split
  · rw [truth_sz]; omega
  · split
    · rw [truth_sz]; omega
    · refine Nat.le_trans (pack_sz _ _ _) ?_
      have h1 : sumN (thinF w (flatP kind (thinF w l))) ≤ sumN (flatP kind (thinF w l)) := thin_sum szN w _
      have h2 := flat_sum kind (thinF w l)
      have h3 : sumN (thinF w l) ≤ sumN l := thin_sum szN w _
      omega
theorem not_sz {x : Prd} (hx : x.kind = 6 → x.parts ≠ []) : szN (notP x) ≤ 1 + szN x := by
  unfold notP
  split
  · rw [truth_sz]; omega
  · split
    · rename_i h6
      cases hp : x.parts with
      | nil => exact absurd hp (hx h6)
      | cons y l =>
        have := sum_mem (x := y) (l := x.parts) (by rw [hp]; simp)
        have h2 := szN_eq x
        simp only [List.headD_cons]; omega
    · rw [szN_eq]; simp [Prd.parts, sumN]
theorem simp_sz (p : Prd) : ∀ {d : Int}, atF p d = true → szN (simpF p) ≤ szN p := by
  induction p using Prd.ind
  rename_i p ih
  intro d h
  have hh := atF_head h
  have hs : sumN (p.parts.map simpF) ≤ sumN p.parts := by
    have key : ∀ l : List Prd, (∀ x ∈ l, x ∈ p.parts) → sumN (l.map simpF) ≤ sumN l := by
      intro l
      induction l with
      | nil => intro _; exact Nat.le_refl _
      | cons x l ihl =>
        intro hl
        have h1 := ih x (hl x (by simp)) (atF_part h (hl x (by simp)))
        have h2 := ihl fun y hy => hl y (by simp [hy])
        simp only [sumN, List.map_cons, List.sum_cons] at h2 ⊢
        omega
    exact key _ fun x h => h
  have he := szN_eq p
  rw [simpF_eq]
  unfold simpK
  rcases head_kind hh with hk | hk | hk | hk | hk | hk <;> simp only [hk, Int.reduceEq, if_true, if_false]
  · exact Nat.le_refl _
  · split
    · rw [truth_sz]; omega
    · exact Nat.le_refl _
  · split
    · rw [truth_sz]; omega
    · exact Nat.le_refl _
  · exact Nat.le_trans (many_sz _ _ _ _) (by omega)
  · exact Nat.le_trans (many_sz _ _ _ _) (by omega)
  · obtain ⟨x, hx⟩ := head_one hh hk
    rw [hx] at hs he ⊢
    have hxa := (simp_at x (atF_part h (by rw [hx]; simp))).1
    refine Nat.le_trans (not_sz fun h6 => ?_) ?_
    · obtain ⟨y, hy⟩ := head_one (atF_head hxa) h6; show (simpF x).parts ≠ []; rw [hy]; simp
    · simp only [sumN, List.map_cons, List.map_nil, List.sum_cons, List.sum_nil, List.headD_cons] at hs he ⊢; omega

/-! ### No table more -/
def SubT (s p : Prd) : Prop := ∀ y ∈ gathF tab1F s, y = 0 ∨ y ∈ gathF tab1F p
def SubTL (l : List Prd) (p : Prd) : Prop := ∀ x ∈ l, SubT x p
theorem mem_gathL {y : Int} : ∀ {l : List Prd}, y ∈ gathL tab1F l ↔ ∃ x ∈ l, y ∈ gathF tab1F x
  | [] => by simp [gathL]
  | x :: l => by simp [gathL, mem_gathL (l := l)]
theorem mem_gathF {y : Int} {p : Prd} : y ∈ gathF tab1F p ↔ y ∈ tab1F p ∨ ∃ x ∈ p.parts, y ∈ gathF tab1F x := by
  rw [gathF_eq, List.mem_append, mem_gathL]
theorem tab_zero : bits .or .u64 (trmTabF trmZ) (trmTabF trmZ) = 0 := by decide +kernel
theorem bare_sub {k t o : Int} {l : List Prd} {p : Prd} (h : SubTL l p) : SubT (.mk k t o trmZ trmZ l) p := fun y hy => by
  rcases mem_gathF.1 hy with hy | ⟨x, hx, hy⟩
  · simp only [tab1F, Prd.a, Prd.b, tab_zero, List.mem_singleton] at hy; exact .inl hy
  · exact h x hx y hy
theorem truth_sub (t : Int) (p : Prd) : SubT (truthP t) p := bare_sub fun x hx => by simp at hx
theorem part_sub {x y p : Prd} (h : SubT x p) (hy : y ∈ x.parts) : SubT y p := fun z hz => h z (mem_gathF.2 (.inr ⟨y, hy, hz⟩))
theorem pack_sub {kind w : Int} {l : List Prd} {p : Prd} (h : SubTL l p) : SubT (packF kind w l) p := by
  match l, h with
  | [], _ => exact truth_sub w p
  | [x], h => exact h x (by simp)
  | x :: y :: l, h => exact bare_sub h
theorem many_sub {kind w a : Int} {l : List Prd} {p : Prd} (h : SubTL l p) : SubT (manyF kind w a l) p := by
  unfold manyF
  split
  · exact truth_sub a p
  · split
    · exact truth_sub a p
    · refine pack_sub fun y hy => ?_
      rcases flat_mem (thin_mem y hy).1 with ⟨x, hx, _, hm⟩ | hm
      · exact part_sub (h x (thin_mem x hx).1) hm
      · exact h y (thin_mem y hm).1
theorem not_sub {x p : Prd} (hx : x.kind = 6 → x.parts ≠ []) (h : SubT x p) : SubT (notP x) p := by
  unfold notP
  split
  · exact truth_sub _ p
  · split
    · rename_i h6
      cases hp : x.parts with
      | nil => exact absurd hp (hx h6)
      | cons y l => exact part_sub h (by rw [hp]; simp)
    · exact bare_sub fun y hy => by simp only [List.mem_singleton] at hy; subst hy; exact h
theorem simp_sub (p : Prd) : ∀ {d : Int}, atF p d = true → SubT (simpF p) p := by
  induction p using Prd.ind
  rename_i p ih
  intro d h
  have hh := atF_head h
  have hl : SubTL (p.parts.map simpF) p := fun x hx => by
    obtain ⟨y, hy, rfl⟩ := List.mem_map.1 hx
    exact fun z hz => (ih y hy (atF_part h hy) z hz).imp id fun h' => mem_gathF.2 (.inr ⟨y, hy, h'⟩)
  have hself : SubT p p := fun y hy => .inr hy
  rw [simpF_eq]
  unfold simpK
  rcases head_kind hh with hk | hk | hk | hk | hk | hk <;> simp only [hk, Int.reduceEq, if_true, if_false]
  · exact hself
  · split
    · exact truth_sub _ p
    · exact hself
  · split
    · exact truth_sub _ p
    · exact hself
  · exact many_sub hl
  · exact many_sub hl
  · obtain ⟨x, hx⟩ := head_one hh hk
    have hxa := (simp_at x (atF_part h (by rw [hx]; simp))).1
    have := hl (simpF x) (by rw [hx]; simp)
    rw [hx]
    refine not_sub (fun h6 => ?_) this
    obtain ⟨y, hy⟩ := head_one (atF_head hxa) h6; show (simpF x).parts ≠ []; rw [hy]; simp
/-! As words. -/
theorem or_bit : ∀ (l : List Int) (s : Int), Wd s → (∀ y ∈ l, Wd y) → ∃ n : Nat, n < 18446744073709551616 ∧ l.foldl (fun a x => bits .or .u64 a x) s = (n : Int) ∧ ∀ j, n.testBit j = true ↔ (s.toNat.testBit j = true ∨ ∃ y ∈ l, y.toNat.testBit j = true)
  | [], s, hs, _ => by
    obtain ⟨n, h1, rfl⟩ := hs
    exact ⟨n, h1, rfl, fun j => by simp⟩
  | x :: l, s, hs, hl => by
    have hx := hl x (by simp)
    obtain ⟨n, h1, h2, h3⟩ := or_bit l (bits .or .u64 s x) (hs.or hx) fun y hy => hl y (by simp [hy])
    refine ⟨n, h1, h2, fun j => ?_⟩
    obtain ⟨a, ha, rfl⟩ := hs
    obtain ⟨b, hb, rfl⟩ := hx
    rw [h3, bor_nat ha hb]
    simp only [Int.toNat_natCast, Nat.testBit_or, Bool.or_eq_true, List.mem_cons]
    constructor
    · rintro ((h | h) | ⟨y, hy, h⟩)
      · exact .inl h
      · exact .inr ⟨_, .inl rfl, by simpa using h⟩
      · exact .inr ⟨y, .inr hy, h⟩
    · rintro (h | ⟨y, rfl | hy, h⟩)
      · exact .inl (.inl h)
      · exact .inl (.inr (by simpa using h))
      · exact .inr ⟨y, hy, h⟩
theorem gath_wd (p : Prd) : ∀ y ∈ gathF tab1F p, Wd y := by
  induction p using Prd.ind
  rename_i p ih
  intro y hy
  rcases mem_gathF.1 hy with hy | ⟨x, hx, hy⟩
  · simp only [tab1F, List.mem_singleton] at hy; subst hy; exact (wd_trm _).or (wd_trm _)
  · exact ih x hx y hy
theorem andNot_sub {n m : Nat} (hn : n < 18446744073709551616) (hm : m < 18446744073709551616) (h : ∀ j, n.testBit j = true → m.testBit j = true) : bits .andNot .u64 (n : Int) (m : Int) = 0 := by
  rw [u64_andNot_nat n m hn hm]
  have : n &&& (18446744073709551615 - m) = 0 := by
    apply Nat.eq_of_testBit_eq
    intro j
    rw [Nat.testBit_and, Nat.zero_testBit]
    cases hb : n.testBit j
    · rfl
    · have h1 := h j hb
      by_cases hj : j < 64
      · have : (18446744073709551615 - m).testBit j = !m.testBit j := by
          have e : 18446744073709551615 - m = 2 ^ 64 - (m + 1) := by omega
          rw [e, Nat.testBit_two_pow_sub_succ (by simpa using hm)]
          simp [hj]
        rw [this, h1]; rfl
      · have h2 : n < 2 ^ j := Nat.lt_of_lt_of_le (by simpa using hn) (Nat.pow_le_pow_right (n := 2) (by omega) (show 64 ≤ j by omega))
        rw [Nat.testBit_lt_two_pow h2] at hb; cases hb
  rw [this]; rfl
theorem tabs_sub {s p : Prd} (h : SubT s p) : bits .andNot .u64 (tabsF s) (tabsF p) = 0 := by
  obtain ⟨n, n1, n2, n3⟩ := or_bit (gathF tab1F s) 0 wd0 (gath_wd s)
  obtain ⟨m, m1, m2, m3⟩ := or_bit (gathF tab1F p) 0 wd0 (gath_wd p)
  unfold tabsF
  rw [n2, m2]
  have key : ∀ j, n.testBit j = true → m.testBit j = true := fun j hj => by
    rcases (n3 j).1 hj with h0 | ⟨y, hy, hb⟩
    · simp at h0
    · rcases h y hy with rfl | h'
      · simp at hb
      · exact (m3 j).2 (.inr ⟨y, h', hb⟩)
  exact andNot_sub n1 m1 key

/-! ### The same truth -/
theorem any_firstF {a b c : Int} {l m : List Int} (h0 : (∃ x ∈ l, ofF x = a) ↔ ∃ x ∈ m, ofF x = a) (h1 : (¬ ∃ x ∈ l, ofF x = a) → ((∃ x ∈ l, ofF x = b) ↔ ∃ x ∈ m, ofF x = b)) : firstF l a b c = firstF m a b c := by
  unfold firstF
  simp only [List.any_eq_true, decide_eq_true_eq]
  by_cases e : ∃ x ∈ l, ofF x = a
  · rw [if_pos e, if_pos (h0.1 e)]
  · rw [if_neg e, if_neg fun h => e (h0.2 h)]
    by_cases e1 : ∃ x ∈ l, ofF x = b
    · rw [if_pos e1, if_pos ((h1 e).1 e1)]
    · rw [if_neg e1, if_neg fun h => e1 ((h1 e).2 h)]
theorem firstF_in (l : List Int) (a b c : Int) : firstF l a b c = a ∨ firstF l a b c = b ∨ firstF l a b c = c := by
  unfold firstF; split
  · exact .inl rfl
  · split
    · exact .inr (.inl rfl)
    · exact .inr (.inr rfl)
theorem of_in (rows : List (List Val)) (p : Prd) : 0 ≤ ofPF rows p ∧ ofPF rows p ≤ 2 := by
  rw [ofPF_eq]
  unfold ofK
  repeat' split
  · have := firstF_in [p.truth] 0 1 2; omega
  · exact cmp_in _ _ _
  · exact truthF_in _
  · have := firstF_in (p.parts.map (ofPF rows)) 0 1 2; omega
  · have := firstF_in (p.parts.map (ofPF rows)) 2 1 0; omega
  · unfold notHd; split
    · omega
    · rename_i x _ _; have := ofF_in x; omega
  · omega
theorem of_id (rows : List (List Val)) (p : Prd) : ofF (ofPF rows p) = ofPF rows p := ofF_id (of_in rows p)
theorem first_one (t : Int) : firstF [t] 0 1 2 = ofF t := by
  unfold firstF
  have := ofF_in t
  simp only [List.any_cons, List.any_nil, Bool.or_false, decide_eq_true_eq]
  split
  · omega
  · split <;> omega
theorem first_one' (t : Int) : firstF [t] 2 1 0 = ofF t := by
  unfold firstF
  have := ofF_in t
  simp only [List.any_cons, List.any_nil, Bool.or_false, decide_eq_true_eq]
  split
  · omega
  · split <;> omega
theorem of_truth (rows : List (List Val)) (t : Int) : ofPF rows (truthP t) = ofF t := by
  rw [ofPF_eq]; simp [truthP, ofK, Prd.kind, Prd.truth, first_one]
theorem of_is {rows : List (List Val)} {x : Prd} {t : Int} (h : isP x t = true) : ofPF rows x = ofF t := by
  simp only [isP, Bool.and_eq_true, decide_eq_true_eq] at h
  rw [ofPF_eq, ofK, if_pos h.1, first_one, h.2]
/-- Which values stand in a list. -/
def Has (rows : List (List Val)) (l : List Prd) (c : Int) : Prop := ∃ x ∈ l, ofPF rows x = c
theorem first_has (rows : List (List Val)) {a w : Int} (hw : (a = 0 ∧ w = 2) ∨ (a = 2 ∧ w = 0)) {l m : List Prd} (h0 : Has rows l a ↔ Has rows m a) (h1 : ¬ Has rows l a → (Has rows l 1 ↔ Has rows m 1)) :
    firstF (l.map (ofPF rows)) a 1 w = firstF (m.map (ofPF rows)) a 1 w := by
  have e : ∀ (l : List Prd) c, (∃ x ∈ l.map (ofPF rows), ofF x = c) ↔ Has rows l c := fun l c => by
    unfold Has
    constructor
    · rintro ⟨x, hx, hc⟩
      obtain ⟨y, hy, rfl⟩ := List.mem_map.1 hx
      exact ⟨y, hy, by rw [← of_id]; exact hc⟩
    · rintro ⟨y, hy, hc⟩
      exact ⟨_, List.mem_map.2 ⟨y, hy, rfl⟩, by rw [of_id]; exact hc⟩
  refine any_firstF ?_ ?_
  · rw [e, e]; exact h0
  · rw [e, e, e]; exact h1
theorem first_val {rows : List (List Val)} {a w : Int} (hw : (a = 0 ∧ w = 2) ∨ (a = 2 ∧ w = 0)) (l : List Prd) :
    (Has rows l a ∧ firstF (l.map (ofPF rows)) a 1 w = a) ∨ (¬ Has rows l a ∧ Has rows l 1 ∧ firstF (l.map (ofPF rows)) a 1 w = 1) ∨ (¬ Has rows l a ∧ ¬ Has rows l 1 ∧ firstF (l.map (ofPF rows)) a 1 w = w) := by
  unfold firstF Has
  simp only [List.any_map, List.any_eq_true, Function.comp, decide_eq_true_eq, of_id]
  by_cases h0 : ∃ x ∈ l, ofPF rows x = a
  · exact .inl ⟨h0, if_pos h0⟩
  · by_cases h1 : ∃ x ∈ l, ofPF rows x = 1
    · exact .inr (.inl ⟨h0, h1, by rw [if_neg h0, if_pos h1]⟩)
    · exact .inr (.inr ⟨h0, h1, by rw [if_neg h0, if_neg h1]⟩)
theorem thin_hasv {rows : List (List Val)} {w c : Int} (hw : w = 0 ∨ w = 2) (hc : c ≠ w) (hc2 : 0 ≤ c ∧ c ≤ 2) (l : List Prd) : Has rows (thinF w l) c ↔ Has rows l c := by
  have hww : ofF w = w := by rcases hw with rfl | rfl <;> rfl
  constructor
  · rintro ⟨x, hx, h⟩; exact ⟨x, (thin_mem x hx).1, h⟩
  · unfold thinF
    refine snoc_ind (C := fun l => Has rows l c → Has rows (thinS w l).1 c) (by rintro ⟨x, hx, _⟩; simp at hx) (fun l x ih => ?_) l
    rintro ⟨y, hy, h⟩
    rw [thinS_snoc]
    unfold stepS
    rcases List.mem_append.1 hy with hy | hy
    · obtain ⟨z, hz, h'⟩ := ih ⟨y, hy, h⟩
      split
      · exact ⟨z, hz, h'⟩
      · exact ⟨z, List.mem_append_left _ hz, h'⟩
    · simp only [List.mem_singleton] at hy
      subst hy
      split
      · rename_i hcond
        rw [Bool.or_eq_true, Bool.and_eq_true] at hcond
        rcases hcond with h1 | ⟨h1, h2⟩
        · have := of_is (rows := rows) h1; omega
        · rw [thin_unk] at h2
          unfold hasP at h2
          rw [List.any_eq_true] at h2
          obtain ⟨z, hz, h3⟩ := h2
          exact ⟨z, hz, by rw [of_is h3, ← h, of_is h1]⟩
      · exact ⟨y, by simp, h⟩
theorem of_kind {rows : List (List Val)} {kind w a : Int} (hk : (kind = 4 ∧ w = 2 ∧ a = 0) ∨ (kind = 5 ∧ w = 0 ∧ a = 2)) {x : Prd} (hx : x.kind = kind) : ofPF rows x = firstF (x.parts.map (ofPF rows)) a 1 w := by
  rw [ofPF_eq, ofK, hx]
  rcases hk with ⟨rfl, rfl, rfl⟩ | ⟨rfl, rfl, rfl⟩ <;> simp
theorem open_first {rows : List (List Val)} {kind w a : Int} (hk : (kind = 4 ∧ w = 2 ∧ a = 0) ∨ (kind = 5 ∧ w = 0 ∧ a = 2)) (l : List Prd) : firstF ((openF kind l).map (ofPF rows)) a 1 w = firstF (l.map (ofPF rows)) a 1 w := by
  have hw : (a = 0 ∧ w = 2) ∨ (a = 2 ∧ w = 0) := by omega
  have hmem : ∀ {x y : Prd}, x ∈ l → x.kind = kind → y ∈ x.parts → y ∈ openF kind l := fun {x y} hx e hy => by
    unfold openF; exact List.mem_flatMap.2 ⟨x, hx, by rw [if_pos e]; exact hy⟩
  have hself : ∀ {x : Prd}, x ∈ l → x.kind ≠ kind → x ∈ openF kind l := fun {x} hx e => by
    unfold openF; exact List.mem_flatMap.2 ⟨x, hx, by rw [if_neg e]; simp⟩
  have hA : Has rows (openF kind l) a ↔ Has rows l a := by
    constructor
    · rintro ⟨y, hy, h⟩
      rcases open_mem hy with ⟨x, hx, e, hm⟩ | ⟨hm, _⟩
      · refine ⟨x, hx, ?_⟩
        rw [of_kind hk e]
        rcases first_val (rows := rows) hw x.parts with h1 | h1 | h1
        · exact h1.2
        · exact absurd ⟨y, hm, h⟩ h1.1
        · exact absurd ⟨y, hm, h⟩ h1.1
      · exact ⟨y, hm, h⟩
    · rintro ⟨x, hx, h⟩
      by_cases e : x.kind = kind
      · rw [of_kind hk e] at h
        rcases first_val (rows := rows) hw x.parts with h1 | h1 | h1
        · obtain ⟨y, hy, h'⟩ := h1.1; exact ⟨y, hmem hx e hy, h'⟩
        · omega
        · omega
      · exact ⟨x, hself hx e, h⟩
  refine first_has rows hw hA fun hn => ?_
  have hn' : ¬ Has rows l a := fun h => hn (hA.2 h)
  constructor
  · rintro ⟨y, hy, h⟩
    rcases open_mem hy with ⟨x, hx, e, hm⟩ | ⟨hm, _⟩
    · refine ⟨x, hx, ?_⟩
      rw [of_kind hk e]
      rcases first_val (rows := rows) hw x.parts with h1 | h1 | h1
      · exact absurd ⟨x, hx, by rw [of_kind hk e]; exact h1.2⟩ hn'
      · exact h1.2.2
      · exact absurd ⟨y, hm, h⟩ h1.2.1
    · exact ⟨y, hm, h⟩
  · rintro ⟨x, hx, h⟩
    by_cases e : x.kind = kind
    · rw [of_kind hk e] at h
      rcases first_val (rows := rows) hw x.parts with h1 | h1 | h1
      · omega
      · obtain ⟨y, hy, h'⟩ := h1.2.1; exact ⟨y, hmem hx e hy, h'⟩
      · omega
    · exact ⟨x, hself hx e, h⟩
theorem thin_first {rows : List (List Val)} {a w : Int} (hw : (a = 0 ∧ w = 2) ∨ (a = 2 ∧ w = 0)) (l : List Prd) : firstF ((thinF w l).map (ofPF rows)) a 1 w = firstF (l.map (ofPF rows)) a 1 w :=
  first_has rows hw (thin_hasv (by omega) (by omega) (by omega) l) fun _ => thin_hasv (by omega) (by omega) (by omega) l
theorem flat_first {rows : List (List Val)} {kind w a : Int} (hk : (kind = 4 ∧ w = 2 ∧ a = 0) ∨ (kind = 5 ∧ w = 0 ∧ a = 2)) (l : List Prd) : firstF ((flatP kind l).map (ofPF rows)) a 1 w = firstF (l.map (ofPF rows)) a 1 w := by
  unfold flatP; split
  · rfl
  · exact open_first hk l
theorem pack_first {rows : List (List Val)} {kind w a : Int} (hk : (kind = 4 ∧ w = 2 ∧ a = 0) ∨ (kind = 5 ∧ w = 0 ∧ a = 2)) (l : List Prd) : ofPF rows (packF kind w l) = firstF (l.map (ofPF rows)) a 1 w := by
  match l with
  | [] => rw [show packF kind w [] = truthP w from rfl, of_truth]; rcases hk with ⟨_, rfl, rfl⟩ | ⟨_, rfl, rfl⟩ <;> rfl
  | [x] =>
    rw [show packF kind w [x] = x from rfl, ← of_id]
    rcases hk with ⟨_, rfl, rfl⟩ | ⟨_, rfl, rfl⟩
    · exact (first_one _).symm
    · exact (first_one' _).symm
  | x :: y :: l => exact of_kind hk (x := .mk kind 0 0 trmZ trmZ (x :: y :: l)) rfl
theorem many_first {rows : List (List Val)} {kind w a : Int} (hk : (kind = 4 ∧ w = 2 ∧ a = 0) ∨ (kind = 5 ∧ w = 0 ∧ a = 2)) (l : List Prd) : ofPF rows (manyF kind w a l) = firstF (l.map (ofPF rows)) a 1 w := by
  have hw : (a = 0 ∧ w = 2) ∨ (a = 2 ∧ w = 0) := by omega
  have hall : ∀ m : List Prd, hasP m a = true → firstF (m.map (ofPF rows)) a 1 w = a := fun m h => by
    unfold hasP at h
    rw [List.any_eq_true] at h
    obtain ⟨x, hx, h1⟩ := h
    have hx' : Has rows m a := ⟨x, hx, by rw [of_is h1]; rcases hw with ⟨rfl, _⟩ | ⟨rfl, _⟩ <;> rfl⟩
    rcases first_val (rows := rows) hw m with h2 | h2 | h2
    · exact h2.2
    · exact absurd hx' h2.1
    · exact absurd hx' h2.1
  have ha : ofF a = a := by rcases hw with ⟨rfl, _⟩ | ⟨rfl, _⟩ <;> rfl
  have hfl : firstF ((flatP kind (thinF w l)).map (ofPF rows)) a 1 w = firstF (l.map (ofPF rows)) a 1 w := by rw [flat_first hk, thin_first hw]
  unfold manyF
  split
  · rename_i h; rw [of_truth, ha, hall l h]
  · split
    · rename_i h; rw [of_truth, ha, ← hfl, hall _ h]
    · rw [pack_first hk, thin_first hw, hfl]
theorem of_not {rows : List (List Val)} {x : Prd} (hx : x.kind = 6 → x.parts ≠ []) : ofPF rows (notP x) = 2 - ofF (ofPF rows x) := by
  unfold notP
  split
  · rename_i h1
    rw [of_truth, ofPF_eq, ofK, if_pos h1, first_one]
    have h2 := ofF_in x.truth
    rw [ofF_id (by omega), ofF_id h2]
  · split
    · rename_i h6
      cases hp : x.parts with
      | nil => exact absurd hp (hx h6)
      | cons y l =>
        have e : ofPF rows x = 2 - ofF (ofPF rows y) := by
          rw [ofPF_eq, ofK, h6, hp]; simp [notHd]
        have h2 := of_in rows y
        rw [e, of_id, ofF_id (by omega)]
        simp only [List.headD_cons]; omega
    · rw [ofPF_eq]; simp [ofK, Prd.kind, Prd.parts, notHd]
theorem simp_of (rows : List (List Val)) (p : Prd) : ∀ {d : Int}, atF p d = true → ofPF rows (simpF p) = ofPF rows p := by
  induction p using Prd.ind
  rename_i p ih
  intro d h
  have hh := atF_head h
  have hm : (p.parts.map simpF).map (ofPF rows) = p.parts.map (ofPF rows) := by
    rw [List.map_map]
    exact List.map_congr_left fun x hx => ih x hx (atF_part h hx)
  rw [simpF_eq, ofPF_eq rows p]
  unfold simpK ofK
  rcases head_kind hh with hk | hk | hk | hk | hk | hk <;> simp only [hk, Int.reduceEq, if_true, if_false]
  · rw [ofPF_eq, ofK, if_pos hk]
  · split
    · rename_i h2
      have e1 : trmOfF p.a rows = p.a.v := by unfold trmOfF; rw [if_neg (by omega)]
      have e2 : trmOfF p.b rows = p.b.v := by unfold trmOfF; rw [if_neg (by omega)]
      rw [of_truth, e1, e2, ofF_id (cmp_in _ _ _)]
    · rw [ofPF_eq, ofK, hk]; simp
  · split
    · rename_i h2
      have e1 : trmOfF p.a rows = p.a.v := by unfold trmOfF; rw [if_neg (by omega)]
      rw [of_truth, e1, ofF_id (truthF_in _)]
    · rw [ofPF_eq, ofK, hk]; simp
  · rw [many_first (.inl ⟨rfl, rfl, rfl⟩), hm]
  · rw [many_first (.inr ⟨rfl, rfl, rfl⟩), hm]
  · obtain ⟨x, hx⟩ := head_one hh hk
    have hxa := (simp_at x (atF_part h (by rw [hx]; simp))).1
    have hix := ih x (by rw [hx]; simp) (atF_part h (by rw [hx]; simp))
    rw [hx]
    simp only [List.map_cons, List.map_nil, List.headD_cons, notHd]
    rw [of_not fun h6 => ?_, hix]
    obtain ⟨y, hy⟩ := head_one (atF_head hxa) h6; show (simpF x).parts ≠ []; rw [hy]; simp
end Go.Proofs.Ytekdlkjonihglaa.AL
