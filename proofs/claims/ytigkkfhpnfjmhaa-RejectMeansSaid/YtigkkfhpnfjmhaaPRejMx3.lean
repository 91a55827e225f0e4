/- Laid by a program of this session over the printer of the kit: contracts of functions of the given program, and rows of laws. Lean checks it. -/
import Derived.Test.YtigkkfhpnfjmhaaPRejMx0
import Derived.Test.YtigkkfhpnfjmhaaPRejMx2
namespace Go.Proofs.Ytigkkfhpnfjmhaa.PRejM
open Go.RowKit Go.Proofs.YtigkkfhpnfjmhaaW.PrintWords Go.Proofs.YtigkkfhpnfjmhaaW.PrintLast Go.Proofs.YtigkkfhpnfjmhaaW.PrintMore
attribute [local go_sem] max2_int min2_int max_two min_two max_three min_three max_four min_four   -- for this text's walks alone
set_option linter.unusedVariables false
set_option linter.unusedSimpArgs false

/-! ### value_side: function 96 -/
def value_side.f (a0 : Int) (a1 : Int) : Option (Int) := if a0 < a1 then (some 0) else (if a0 = a1 then (some 1) else (some 2))
set_option maxHeartbeats 8000000 in
set_option maxRecDepth 100000 in
theorem value_side.calls (a0 : Int) (a1 : Int) (r : Int) (w : World) (h : value_side.f a0 a1 = some r) :
    Calls Try.prog 96 #[.int .i64 a0, .int .i64 a1] w fun e w' => e = .returned (.int .i64 r) ∧ Drawn0 w w' := by
  have H : (if a0 < a1 then (some 0) else (if a0 = a1 then (some 1) else (some 2))) = some r := h
  clear h
  by_cases c3 : a0 < a1
  · rw [if_pos c3] at H
    have c3b0 : decide (a0 < a1) = true := decide_eq_true c3
    clear c3
    obtain rfl := Option.some.inj H
    go_enter Try.func96, Try.ntmps96
    go_wp2
    go_ret
    exact ⟨by first | rfl | (simp; done) | (simp [*]; done), by repeat (first | exact Drawn0.refl _ | apply Drawn0.step)⟩
  · rw [if_neg c3] at H
    have c3b0 : decide (a0 < a1) = false := decide_eq_false c3
    clear c3
    by_cases c4 : a0 = a1
    · rw [if_pos c4] at H
      have c4b0 : (a0 == a1) = true := beq_iff_eq.mpr c4
      have c4b1 : (a0 != a1) = false := bne_eq_false_iff_eq.mpr c4
      clear c4
      obtain rfl := Option.some.inj H
      go_enter Try.func96, Try.ntmps96
      go_wp2
      go_ret
      exact ⟨by first | rfl | (simp; done) | (simp [*]; done), by repeat (first | exact Drawn0.refl _ | apply Drawn0.step)⟩
    · rw [if_neg c4] at H
      have c4b0 : (a0 == a1) = false := beq_eq_false_iff_ne.mpr c4
      have c4b1 : (a0 != a1) = true := bne_iff_ne.mpr c4
      obtain rfl := Option.some.inj H
      go_enter Try.func96, Try.ntmps96
      go_wp2
      go_ret
      exact ⟨by first | rfl | (simp; done) | (simp [*]; done), by repeat (first | exact Drawn0.refl _ | apply Drawn0.step)⟩

/-! ### value_Compare: function 68 (by hand) -/
/-- What a comparison is: by the operator, and by how the two numbers stand (0: less, 1: equal, 2: more). -/
def value_Compare.tab (op s : Int) : Int :=
 if op = 1 then (if s = 1 then 2 else 0) else if op = 2 then (if s = 1 then 0 else 2) else if op = 3 then (if s = 0 then 2 else 0)
 else if op = 4 then (if s = 2 then 0 else 2) else if op = 5 then (if s = 2 then 2 else 0) else (if s = 0 then 0 else 2)
def value_Compare.side (a b : Int) : Int := if a < b then 0 else if a = b then 1 else 2
def value_Compare.v (a0 : Int) (a1_0 : Bool) (a1_1 : Int) (a2_0 : Bool) (a2_1 : Int) : Int :=
 if a0 < 1 ∨ a0 > 6 ∨ a1_0 = true ∨ a2_0 = true then 1 else value_Compare.tab a0 (value_Compare.side a1_1 a2_1)
def value_Compare.f (a0 : Int) (a1_0 : Bool) (a1_1 : Int) (a2_0 : Bool) (a2_1 : Int) : Option Int := some (value_Compare.v a0 a1_0 a1_1 a2_0 a2_1)
theorem value_Compare.side_f (a b : Int) : value_side.f a b = some (value_Compare.side a b) := by
 unfold value_side.f value_Compare.side
 split
 ·rfl
 ·split <;> rfl
theorem value_Compare.side_of (a b : Int) : value_Compare.side a b = 0 ∨ value_Compare.side a b = 1 ∨ value_Compare.side a b = 2 := by
 unfold value_Compare.side
 split
 ·exact .inl rfl
 ·split
  ·exact .inr (.inl rfl)
  ·exact .inr (.inr rfl)
theorem value_Compare.below_row {B g : Nat} {a w : World} (h : Below B a w) (hg : B ≤ g) (cs : Array Value) : Below B a (w.setRow g cs) :=
 h.trans ⟨rfl, rfl, rfl, by simp [World.setRow], fun k hk => by simp only [World.setRow, Array.getElem?_modify]; rw [if_neg (by omega)]⟩
theorem value_Compare.blk_row {g : Nat} {w : World} {t : TypeId} {old : Array Value} (h : w.heap[g]? = some (.cells old t (0, 0))) (cs : Array Value) : (w.setRow g cs).heap[g]? = some (.cells cs t (0, 0)) := by
 simp [World.setRow, Array.getElem?_modify, h]
theorem value_Compare.oth_row {g k : Nat} {w : World} {o : Obj} (h : w.heap[k]? = some o) (hne : k ≠ g) (cs : Array Value) : (w.setRow g cs).heap[k]? = some o := by
 simp only [World.setRow, Array.getElem?_modify]; rw [if_neg (fun e => hne e.symm)]; exact h
def value_Compare.zeros : Array Value := #[.int .i64 0, .int .i64 0, .int .i64 0, .int .i64 0, .int .i64 0, .int .i64 0, .int .i64 0, .int .i64 0, .int .i64 0, .int .i64 0, .int .i64 0, .int .i64 0, .int .i64 0, .int .i64 0, .int .i64 0, .int .i64 0, .int .i64 0, .int .i64 0, .int .i64 0, .int .i64 0, .int .i64 0]
def value_Compare.vals : Array Value := #[.int .i64 0, .int .i64 0, .int .i64 0, .int .i64 0, .int .i64 2, .int .i64 0, .int .i64 2, .int .i64 0, .int .i64 2, .int .i64 2, .int .i64 0, .int .i64 0, .int .i64 2, .int .i64 2, .int .i64 0, .int .i64 0, .int .i64 0, .int .i64 2, .int .i64 0, .int .i64 2, .int .i64 2]
theorem value_Compare.vals_one : value_Compare.vals.all (·.oneCell') = true := by kernel_rfl
set_option maxHeartbeats 1600000 in
set_option maxRecDepth 100000 in
theorem value_Compare.calls (a0 : Int) (a1_0 : Bool) (a1_1 : Int) (a2_0 : Bool) (a2_1 : Int) (r : Int) (w : World) (h : value_Compare.f a0 a1_0 a1_1 a2_0 a2_1 = some r) :
  Calls Try.prog 68 #[.int .i64 a0, .agg #[.bool a1_0, .int .i64 a1_1], .agg #[.bool a2_0, .int .i64 a2_1]] w fun e w' => e = .returned (.int .i64 r) ∧ Below w.heap.size w w' := by
 obtain rfl := Option.some.inj h
 clear h
 obtain ⟨rv, hrv⟩ : ∃ x, value_Compare.v a0 a1_0 a1_1 a2_0 a2_1 = x := ⟨_, rfl⟩
 rw [hrv]
 have hu2 := Try.underlying42
 have hi4 : (Try.prog.info? 104).map (·.size) = some 21 := by kernel_rfl
 go_enter Try.func68, Try.ntmps68
 go_upto_region 2 with (first
  | ((with_reducible refine gate_dst (N := 4) rfl ?_); refine box_event ?hg (N := 4) ?hd (cs := #[.bool a1_0, .int .i64 a1_1]) (t := 42) ?hr ?_; (case hd => rfl); (case hg => rfl); (case hr => first | (go_simp; done) | (go_simp; rfl)); intro g1 hg1 w1 hb1 HB; clear hg1)
  | ((with_reducible refine gate_dst (N := 5) rfl ?_); refine box_event ?hg (N := 5) ?hd (cs := #[.bool a2_0, .int .i64 a2_1]) (t := 42) ?hr ?_; (case hd => rfl); (case hg => rfl); (case hr => first | (go_simp; done) | (go_simp; rfl)); intro g2 hg2 w2 hb2 hB2; replace hb1 := blk_below hb1 hB2; replace HB := below_step HB hB2; clear hg2 hB2)
  | ((with_reducible refine gate_dst (N := 7) rfl ?_); refine box_event ?hg (N := 7) ?hd (cs := value_Compare.zeros) (t := 104) ?hr ?_; (case hd => rfl); (case hg => rfl); (case hr => first | (go_simp; done) | (go_simp; rfl)); intro g3 hg3 w3 hb3 hB3; have hge : w.heap.size ≤ g3 := (by rw [hg3]; exact below_size HB); replace hb1 := blk_below hb1 hB3; replace hb2 := blk_below hb2 hB3; replace HB := below_step HB hB3; clear hg3 hB3)
  | ((with_reducible refine gate_store (t := 104) (p := 7) rfl ?_); refine wpList_store_row rfl 104 (.tmp 7) (.tmp 14) rfl g3 value_Compare.vals rfl rfl 104 value_Compare.zeros hb3 hi4 rfl value_Compare.vals_one ?_; have hG := value_Compare.blk_row hb3 value_Compare.vals; replace hb1 := value_Compare.oth_row hb1 (blk_ne hb1 hb3 (by decide)) value_Compare.vals; replace hb2 := value_Compare.oth_row hb2 (blk_ne hb2 hb3 (by decide)) value_Compare.vals; replace HB := value_Compare.below_row HB hge value_Compare.vals; clear hb3; generalize w3.setRow g3 value_Compare.vals = W at *))
 have hc0 : W.cell? ⟨g3, 0, none⟩ = some (.int .i64 0) := (blk_cell hG 0).trans rfl
 have hz0 := blk_frozen hG 0
 have hc1 : W.cell? ⟨g3, 1, none⟩ = some (.int .i64 0) := (blk_cell hG 1).trans rfl
 have hz1 := blk_frozen hG 1
 have hc2 : W.cell? ⟨g3, 2, none⟩ = some (.int .i64 0) := (blk_cell hG 2).trans rfl
 have hz2 := blk_frozen hG 2
 have hc3 : W.cell? ⟨g3, 3, none⟩ = some (.int .i64 0) := (blk_cell hG 3).trans rfl
 have hz3 := blk_frozen hG 3
 have hc4 : W.cell? ⟨g3, 4, none⟩ = some (.int .i64 2) := (blk_cell hG 4).trans rfl
 have hz4 := blk_frozen hG 4
 have hc5 : W.cell? ⟨g3, 5, none⟩ = some (.int .i64 0) := (blk_cell hG 5).trans rfl
 have hz5 := blk_frozen hG 5
 have hc6 : W.cell? ⟨g3, 6, none⟩ = some (.int .i64 2) := (blk_cell hG 6).trans rfl
 have hz6 := blk_frozen hG 6
 have hc7 : W.cell? ⟨g3, 7, none⟩ = some (.int .i64 0) := (blk_cell hG 7).trans rfl
 have hz7 := blk_frozen hG 7
 have hc8 : W.cell? ⟨g3, 8, none⟩ = some (.int .i64 2) := (blk_cell hG 8).trans rfl
 have hz8 := blk_frozen hG 8
 have hc9 : W.cell? ⟨g3, 9, none⟩ = some (.int .i64 2) := (blk_cell hG 9).trans rfl
 have hz9 := blk_frozen hG 9
 have hc10 : W.cell? ⟨g3, 10, none⟩ = some (.int .i64 0) := (blk_cell hG 10).trans rfl
 have hz10 := blk_frozen hG 10
 have hc11 : W.cell? ⟨g3, 11, none⟩ = some (.int .i64 0) := (blk_cell hG 11).trans rfl
 have hz11 := blk_frozen hG 11
 have hc12 : W.cell? ⟨g3, 12, none⟩ = some (.int .i64 2) := (blk_cell hG 12).trans rfl
 have hz12 := blk_frozen hG 12
 have hc13 : W.cell? ⟨g3, 13, none⟩ = some (.int .i64 2) := (blk_cell hG 13).trans rfl
 have hz13 := blk_frozen hG 13
 have hc14 : W.cell? ⟨g3, 14, none⟩ = some (.int .i64 0) := (blk_cell hG 14).trans rfl
 have hz14 := blk_frozen hG 14
 have hc15 : W.cell? ⟨g3, 15, none⟩ = some (.int .i64 0) := (blk_cell hG 15).trans rfl
 have hz15 := blk_frozen hG 15
 have hc16 : W.cell? ⟨g3, 16, none⟩ = some (.int .i64 0) := (blk_cell hG 16).trans rfl
 have hz16 := blk_frozen hG 16
 have hc17 : W.cell? ⟨g3, 17, none⟩ = some (.int .i64 2) := (blk_cell hG 17).trans rfl
 have hz17 := blk_frozen hG 17
 have hc18 : W.cell? ⟨g3, 18, none⟩ = some (.int .i64 0) := (blk_cell hG 18).trans rfl
 have hz18 := blk_frozen hG 18
 have hc19 : W.cell? ⟨g3, 19, none⟩ = some (.int .i64 2) := (blk_cell hG 19).trans rfl
 have hz19 := blk_frozen hG 19
 have hc20 : W.cell? ⟨g3, 20, none⟩ = some (.int .i64 2) := (blk_cell hG 20).trans rfl
 have hz20 := blk_frozen hG 20
 have hx0 : W.cell? ⟨g1, 0, none⟩ = some (.bool a1_0) := (blk_cell hb1 0).trans rfl
 have hx1 : W.cell? ⟨g1, 1, none⟩ = some (.int .i64 a1_1) := (blk_cell hb1 1).trans rfl
 have hx2 := blk_frozen hb1 0
 have hx3 := blk_frozen hb1 1
 have hy0 : W.cell? ⟨g2, 0, none⟩ = some (.bool a2_0) := (blk_cell hb2 0).trans rfl
 have hy1 : W.cell? ⟨g2, 1, none⟩ = some (.int .i64 a2_1) := (blk_cell hb2 1).trans rfl
 have hy2 := blk_frozen hb2 0
 have hy3 := blk_frozen hb2 1
 clear hG hb1 hb2
 by_cases h1 : a0 < 1
 ·go_wp2
  go_ret
  exact ⟨by rw [← hrv]; simp [value_Compare.v, h1], by repeat (first | exact HB | apply pw_below_drewN | apply below_drew1)⟩
 ·by_cases h2 : 6 < a0
  ·go_wp2
   go_ret
   exact ⟨by rw [← hrv]; simp [value_Compare.v, h2], by repeat (first | exact HB | apply pw_below_drewN | apply below_drew1)⟩
  ·cases a1_0 with
   | true =>
    go_wp2
    go_ret
    exact ⟨by rw [← hrv]; simp [value_Compare.v], by repeat (first | exact HB | apply pw_below_drewN | apply below_drew1)⟩
   | false =>
    cases a2_0 with
    | true =>
     go_wp2
     go_ret
     exact ⟨by rw [← hrv]; simp [value_Compare.v], by repeat (first | exact HB | apply pw_below_drewN | apply below_drew1)⟩
    | false =>
     have hv : value_Compare.v a0 false a1_1 false a2_1 = value_Compare.tab a0 (value_Compare.side a1_1 a2_1) := by
      unfold value_Compare.v
      rw [if_neg (by simp; omega)]
     rw [hv] at hrv
     clear hv
     obtain ⟨s, hs⟩ : ∃ s, value_Compare.side a1_1 a2_1 = s := ⟨_, rfl⟩
     have hf := value_Compare.side_f a1_1 a2_1
     have h3 := value_Compare.side_of a1_1 a2_1
     rw [hs] at hf h3 hrv
     clear hs
     have ha : a0 = 1 ∨ a0 = 2 ∨ a0 = 3 ∨ a0 = 4 ∨ a0 = 5 ∨ a0 = 6 := by omega
     clear h1 h2
     have hu3 := Try.underlying103
     have hu4 := Try.underlying104
     rcases ha with rfl | rfl | rfl | rfl | rfl | rfl <;> rcases h3 with rfl | rfl | rfl
     all_goals go_wp2_with (first | (go_at_call 96; (with_reducible refine (value_side.calls a1_1 a2_1 _ _ hf).mono ?_); rintro e w' ⟨rfl, ⟨nd, rfl⟩⟩; (try first | exact ⟨rfl, _, World.drewN_drewN _ _ _⟩ | exact ⟨rfl, _, Eq.trans (World.drewN_drewN _ _ _) (congrArg (World.drewN _) (Nat.add_assoc _ _ _))⟩)))
     all_goals repeat (go_quiet (first | (go_at_call 96; (with_reducible refine (value_side.calls a1_1 a2_1 _ _ hf).mono ?_); rintro e w' ⟨rfl, ⟨nd, rfl⟩⟩; (try first | exact ⟨rfl, _, World.drewN_drewN _ _ _⟩ | exact ⟨rfl, _, Eq.trans (World.drewN_drewN _ _ _) (congrArg (World.drewN _) (Nat.add_assoc _ _ _))⟩))))
     all_goals try go_wp2
     all_goals go_ret
     all_goals exact ⟨by rw [← hrv]; simp [value_Compare.tab], by repeat (first | exact HB | apply pw_below_drewN | apply below_drew1)⟩

/-! ### reject_compares: function 58 -/
mutual
def reject_compares.j0 : Nat → Bool → Int → Int → Int → Int → Int → Int → Bool → Int → Int → Int → Int → Bool → Int → List (S46) → Option (Bool × Bool × Bool)
 | 0, _, _, _, _, _, _, _, _, _, _, _, _, _, _, _ => none
 | k + 1, x5, x128000, x128001, x128002, x128003, x128004, x128005, x128006, x128007, x128008, x128009, x128010, x128011, x128012, x128013 => if x5 = true then ((reject_only.f k 1).bind fun bt131 => (some (bt131.1, bt131.2.1, bt131.2.2))) else (if x128003 = 1 then (reject_compares.j1 k false x128000 x128001 x128002 x128003 x128004 x128005 x128006 x128007 x128008 x128009 x128010 x128011 x128012 x128013) else (reject_compares.j1 k (x128008 != 1) x128000 x128001 x128002 x128003 x128004 x128005 x128006 x128007 x128008 x128009 x128010 x128011 x128012 x128013))
def reject_compares.j1 : Nat → Bool → Int → Int → Int → Int → Int → Int → Bool → Int → Int → Int → Int → Bool → Int → List (S46) → Option (Bool × Bool × Bool)
 | 0, _, _, _, _, _, _, _, _, _, _, _, _, _, _, _ => none
 | k + 1, x27, x128000, x128001, x128002, x128003, x128004, x128005, x128006, x128007, x128008, x128009, x128010, x128011, x128012, x128013 => if x27 = true then ((value_Compare.f x128002 x128006 x128007 x128011 x128012).bind fun t134 => ((reject_only.f k t134).bind fun bt135 => (some (bt135.1, bt135.2.1, bt135.2.2)))) else (some (true, true, true))
end
def reject_compares.f (k : Nat) (a0_0 : Int) (a0_1 : Int) (a0_2 : Int) (a0_3 : Int) (a0_4 : Int) (a0_5 : Int) (a0_6 : Bool) (a0_7 : Int) (a0_8 : Int) (a0_9 : Int) (a0_10 : Int) (a0_11 : Bool) (a0_12 : Int) (l0_13 : List (S46)) (a1 : Int) : Option (Bool × Bool × Bool) := if a0_2 < 1 then (reject_compares.j0 k true a0_0 a0_1 a0_2 a0_3 a0_4 a0_5 a0_6 a0_7 a0_8 a0_9 a0_10 a0_11 a0_12 l0_13) else (if a0_2 > 6 then (reject_compares.j0 k true a0_0 a0_1 a0_2 a0_3 a0_4 a0_5 a0_6 a0_7 a0_8 a0_9 a0_10 a0_11 a0_12 l0_13) else ((reject_isNull.f a0_3 a0_4 a0_5 a0_6 a0_7 a1).bind fun t129 => (if t129 = true then (reject_compares.j0 k true a0_0 a0_1 a0_2 a0_3 a0_4 a0_5 a0_6 a0_7 a0_8 a0_9 a0_10 a0_11 a0_12 l0_13) else ((reject_isNull.f a0_8 a0_9 a0_10 a0_11 a0_12 a1).bind fun t130 => (reject_compares.j0 k t130 a0_0 a0_1 a0_2 a0_3 a0_4 a0_5 a0_6 a0_7 a0_8 a0_9 a0_10 a0_11 a0_12 l0_13)))))
theorem reject_compares.mono_l : ∀ k, (∀ y0 y1 y2 y3 y4 y5 y6 y7 y8 y9 y10 y11 y12 y13 y14, LeO (reject_compares.j0 k y0 y1 y2 y3 y4 y5 y6 y7 y8 y9 y10 y11 y12 y13 y14) (reject_compares.j0 (k + 1) y0 y1 y2 y3 y4 y5 y6 y7 y8 y9 y10 y11 y12 y13 y14)) ∧ (∀ y0 y1 y2 y3 y4 y5 y6 y7 y8 y9 y10 y11 y12 y13 y14, LeO (reject_compares.j1 k y0 y1 y2 y3 y4 y5 y6 y7 y8 y9 y10 y11 y12 y13 y14) (reject_compares.j1 (k + 1) y0 y1 y2 y3 y4 y5 y6 y7 y8 y9 y10 y11 y12 y13 y14))
 | 0 => ⟨fun _ _ _ _ _ _ _ _ _ _ _ _ _ _ _ r h => by simp [reject_compares.j0] at h, fun _ _ _ _ _ _ _ _ _ _ _ _ _ _ _ r h => by simp [reject_compares.j1] at h⟩
 | k + 1 => by
  obtain ⟨ih0, ih1⟩ := reject_compares.mono_l k
  refine ⟨?_, ?_⟩
  ·intro y0 y1 y2 y3 y4 y5 y6 y7 y8 y9 y10 y11 y12 y13 y14
   unfold reject_compares.j0
   repeat' first
   | (with_reducible exact ih0 _ _ _ _ _ _ _ _ _ _ _ _ _ _ _)
   | (with_reducible exact ih1 _ _ _ _ _ _ _ _ _ _ _ _ _ _ _)
   | (with_reducible exact reject_only.mono _ _)
   | (with_reducible exact LeO.refl _)
   | (with_reducible exact LeO.none _)
   | (with_reducible refine LeO.ite ?_ ?_)
   | (with_reducible refine LeO.bind ?_ (fun _ => ?_))
   | exact ih0 _ _ _ _ _ _ _ _ _ _ _ _ _ _ _
   | exact ih1 _ _ _ _ _ _ _ _ _ _ _ _ _ _ _
   | exact reject_only.mono _ _
   | exact LeO.none _
   | refine LeO.ite ?_ ?_
   | refine LeO.bind ?_ (fun _ => ?_)
  ·intro y0 y1 y2 y3 y4 y5 y6 y7 y8 y9 y10 y11 y12 y13 y14
   unfold reject_compares.j1
   repeat' first
   | (with_reducible exact ih0 _ _ _ _ _ _ _ _ _ _ _ _ _ _ _)
   | (with_reducible exact ih1 _ _ _ _ _ _ _ _ _ _ _ _ _ _ _)
   | (with_reducible exact reject_only.mono _ _)
   | (with_reducible exact LeO.refl _)
   | (with_reducible exact LeO.none _)
   | (with_reducible refine LeO.ite ?_ ?_)
   | (with_reducible refine LeO.bind ?_ (fun _ => ?_))
   | exact ih0 _ _ _ _ _ _ _ _ _ _ _ _ _ _ _
   | exact ih1 _ _ _ _ _ _ _ _ _ _ _ _ _ _ _
   | exact reject_only.mono _ _
   | exact LeO.none _
   | refine LeO.ite ?_ ?_
   | refine LeO.bind ?_ (fun _ => ?_)
theorem reject_compares.mono : ∀ a0 a1 a2 a3 a4 a5 a6 a7 a8 a9 a10 a11 a12 a13 a14 k, LeO (reject_compares.f k a0 a1 a2 a3 a4 a5 a6 a7 a8 a9 a10 a11 a12 a13 a14) (reject_compares.f (k + 1) a0 a1 a2 a3 a4 a5 a6 a7 a8 a9 a10 a11 a12 a13 a14) := by
 intro a0 a1 a2 a3 a4 a5 a6 a7 a8 a9 a10 a11 a12 a13 a14 k
 obtain ⟨ih0, ih1⟩ := reject_compares.mono_l k
 unfold reject_compares.f
 repeat' first
   | (with_reducible exact ih0 _ _ _ _ _ _ _ _ _ _ _ _ _ _ _)
   | (with_reducible exact ih1 _ _ _ _ _ _ _ _ _ _ _ _ _ _ _)
   | (with_reducible exact reject_only.mono _ _)
   | (with_reducible exact LeO.refl _)
   | (with_reducible exact LeO.none _)
   | (with_reducible refine LeO.ite ?_ ?_)
   | (with_reducible refine LeO.bind ?_ (fun _ => ?_))
   | exact ih0 _ _ _ _ _ _ _ _ _ _ _ _ _ _ _
   | exact ih1 _ _ _ _ _ _ _ _ _ _ _ _ _ _ _
   | exact reject_only.mono _ _
   | exact LeO.none _
   | refine LeO.ite ?_ ?_
   | refine LeO.bind ?_ (fun _ => ?_)
set_option maxHeartbeats 8000000 in
set_option maxRecDepth 100000 in
theorem reject_compares.calls (k : Nat) (a0_0 : Int) (a0_1 : Int) (a0_2 : Int) (a0_3 : Int) (a0_4 : Int) (a0_5 : Int) (a0_6 : Bool) (a0_7 : Int) (a0_8 : Int) (a0_9 : Int) (a0_10 : Int) (a0_11 : Bool) (a0_12 : Int) (A0_13 : Option Addr) (c0_13 : Nat) (l0_13 : List (S46)) (a1 : Int) (r1 : Bool) (r2 : Bool) (r3 : Bool) (w : World) (hr0_13 : Kd.C k46 w A0_13 l0_13.length l0_13) (hc0_13 : l0_13.length ≤ c0_13) (h : reject_compares.f k a0_0 a0_1 a0_2 a0_3 a0_4 a0_5 a0_6 a0_7 a0_8 a0_9 a0_10 a0_11 a0_12 l0_13 a1 = some (r1, r2, r3)) :
  Calls Try.prog 58 #[.agg #[.int .i64 a0_0, .int .i64 a0_1, .int .i64 a0_2, .int .i64 a0_3, .int .i64 a0_4, .int .i64 a0_5, .bool a0_6, .int .i64 a0_7, .int .i64 a0_8, .int .i64 a0_9, .int .i64 a0_10, .bool a0_11, .int .i64 a0_12, .slice A0_13 l0_13.length c0_13], .int .u64 a1] w fun e w' => e = .returned (.agg #[.bool r1, .bool r2, .bool r3]) ∧ Below w.heap.size w w' := by
 have hu46 := Try.underlying46
 have hu39 := Try.underlying39
 have hu44 := Try.underlying44
 have hu42 := Try.underlying42
 have HR0_13 := Aside0.mk hr0_13
 have HC0_13 := Aside0.mk hc0_13
 clear hr0_13 hc0_13
 have HB := Aside0.mk (Below.refl w.heap.size w)
 have H : (if a0_2 < 1 then (reject_compares.j0 k true a0_0 a0_1 a0_2 a0_3 a0_4 a0_5 a0_6 a0_7 a0_8 a0_9 a0_10 a0_11 a0_12 l0_13) else (if a0_2 > 6 then (reject_compares.j0 k true a0_0 a0_1 a0_2 a0_3 a0_4 a0_5 a0_6 a0_7 a0_8 a0_9 a0_10 a0_11 a0_12 l0_13) else ((reject_isNull.f a0_3 a0_4 a0_5 a0_6 a0_7 a1).bind fun t129 => (if t129 = true then (reject_compares.j0 k true a0_0 a0_1 a0_2 a0_3 a0_4 a0_5 a0_6 a0_7 a0_8 a0_9 a0_10 a0_11 a0_12 l0_13) else ((reject_isNull.f a0_8 a0_9 a0_10 a0_11 a0_12 a1).bind fun t130 => (reject_compares.j0 k t130 a0_0 a0_1 a0_2 a0_3 a0_4 a0_5 a0_6 a0_7 a0_8 a0_9 a0_10 a0_11 a0_12 l0_13)))))) = some (r1, r2, r3) := h
 clear h
 have HC3 := Aside0.mk H
 clear H
 go_enter Try.func58, Try.ntmps58
 go_upto_region 1 with (first | ((with_reducible refine gate_dst (N := 2) rfl ?_); refine box_event ?hg (N := 2) ?hd (cs := #[.int .i64 a0_0, .int .i64 a0_1, .int .i64 a0_2, .int .i64 a0_3, .int .i64 a0_4, .int .i64 a0_5, .bool a0_6, .int .i64 a0_7, .int .i64 a0_8, .int .i64 a0_9, .int .i64 a0_10, .bool a0_11, .int .i64 a0_12, .slice A0_13 l0_13.length c0_13]) (t := 46) ?hr ?_; (case hd => rfl); (case hg => rfl); (case hr => first | (go_simp; done) | (go_simp; rfl)); intro gb127 hg w4 hbox hb; have BK127 := Aside0.mk (hbox); have GW127 := Aside0.mk ((by rw [hg]; exact (below_size (bl_ HB.out)) : w.heap.size ≤ gb127)); replace HB := Aside0.mk (below_step (bl_ HB.out) hb); have GE127 := GW127; clear hb hbox hg) | ((with_reducible refine gate_dst (N := 4) rfl ?_); refine box_event ?hg (N := 4) ?hd (cs := #[.bool false, .bool false, .bool false]) (t := 39) ?hr ?_; (case hd => rfl); (case hg => rfl); (case hr => first | (go_simp; done) | (go_simp; rfl)); intro gb128 hg w5 hbox hb; have BK128 := Aside0.mk (hbox); have GW128 := Aside0.mk ((by rw [hg]; exact (below_size (bl1_ HB.out GE127.out)) : w.heap.size ≤ gb128)); replace HB := Aside0.mk (below_step (bl1_ HB.out GE127.out) hb); have GE128 := GW128; have NB127_128 := Aside0.mk ((by rw [hg]; exact Nat.ne_of_lt (blk_lt (bk_ BK127.out)) : gb127 ≠ gb128)); have NB128_127 := Aside0.mk ((by rw [hg]; exact Nat.ne_of_gt (blk_lt (bk_ BK127.out)) : gb128 ≠ gb127)); replace BK127 := Aside0.mk (blk_below (bk_ BK127.out) hb); clear hb hbox hg))
 (try simp only [Act.put, List.setIfInBounds_toArray, List.set_cons_zero, List.set_cons_succ])
 go_cut [5] (fun v5 wc => ∃ (kq : Nat) (x5_2 : Bool), v5 = .bool x5_2 ∧ Aside0 (reject_compares.j0 kq x5_2 a0_0 a0_1 a0_2 a0_3 a0_4 a0_5 a0_6 a0_7 a0_8 a0_9 a0_10 a0_11 a0_12 l0_13 = some (r1, r2, r3)) ∧ Aside0 (kq ≤ k) ∧ Aside0 (wc.heap[gb127]? = some (.cells #[.int .i64 a0_0, .int .i64 a0_1, .int .i64 a0_2, .int .i64 a0_3, .int .i64 a0_4, .int .i64 a0_5, .bool a0_6, .int .i64 a0_7, .int .i64 a0_8, .int .i64 a0_9, .int .i64 a0_10, .bool a0_11, .int .i64 a0_12, (.slice A0_13 l0_13.length c0_13)] 46 (0, 0))) ∧ Aside0 (wc.heap[gb128]? = some (.cells #[.bool false, .bool false, .bool false] 39 (0, 0))) ∧ Aside0 (Below w.heap.size w wc))
 case first =>
  have H := HC3.out
  clear HC3
  by_cases c6 : a0_2 < 1
  ·rw [if_pos c6] at H
   have c6b0 : decide (a0_2 < 1) = true := decide_eq_true c6
   clear c6
   (first | rw [c6b0] | (simp only [i64_w, i32_w]; rw [c6b0]) | skip)
   have H' := Aside0.mk H
   clear H
   have hnb7 := NB127_128.out
   have hnc7 := NB128_127.out
   have hcz8 := blk_cell BK127.out
   have hfz8 := blk_frozen BK127.out
   go_wp2
   go_meet
   case rel => exact ⟨_, (true), (by first | rfl | (simp; done) | (simp [*]; done) | (simp; decide)), H', ⟨by first | omega | exact Nat.le_refl _⟩, ⟨bk_ BK127.out⟩, ⟨bk_ BK128.out⟩, ⟨bl2_ HB.out GE127.out GE128.out⟩⟩
  ·rw [if_neg c6] at H
   have c6b0 : decide (a0_2 < 1) = false := decide_eq_false c6
   clear c6
   (first | rw [c6b0] | (simp only [i64_w, i32_w]; rw [c6b0]) | skip)
   by_cases c9 : a0_2 > 6
   ·rw [if_pos c9] at H
    have c9b0 : decide (6 < a0_2) = true := decide_eq_true c9
    clear c9
    have H' := Aside0.mk H
    clear H
    have hnb10 := NB127_128.out
    have hnc10 := NB128_127.out
    have hcz11 := blk_cell BK127.out
    have hfz11 := blk_frozen BK127.out
    go_wp2
    go_meet
    case rel => exact ⟨_, (true), (by first | rfl | (simp; done) | (simp [*]; done) | (simp; decide)), H', ⟨by first | omega | exact Nat.le_refl _⟩, ⟨bk_ BK127.out⟩, ⟨bk_ BK128.out⟩, ⟨bl2_ HB.out GE127.out GE128.out⟩⟩
   ·rw [if_neg c9] at H
    have c9b0 : decide (6 < a0_2) = false := decide_eq_false c9
    clear c9
    replace H := Option.bind_eq_some_iff.mp H
    obtain ⟨t129, A120, H⟩ := H
    replace H : (if t129 = true then (reject_compares.j0 k true a0_0 a0_1 a0_2 a0_3 a0_4 a0_5 a0_6 a0_7 a0_8 a0_9 a0_10 a0_11 a0_12 l0_13) else ((reject_isNull.f a0_8 a0_9 a0_10 a0_11 a0_12 a1).bind fun t130 => (reject_compares.j0 k t130 a0_0 a0_1 a0_2 a0_3 a0_4 a0_5 a0_6 a0_7 a0_8 a0_9 a0_10 a0_11 a0_12 l0_13))) = some (r1, r2, r3) := H
    have A12 := Aside0.mk A120
    clear A120
    by_cases c13 : t129 = true
    ·subst c13
     have H1 : (reject_compares.j0 k true a0_0 a0_1 a0_2 a0_3 a0_4 a0_5 a0_6 a0_7 a0_8 a0_9 a0_10 a0_11 a0_12 l0_13) = some (r1, r2, r3) := by rw [if_pos rfl] at H; exact H
     clear H
     have H := H1
     clear H1
     have H' := Aside0.mk H
     clear H
     have hnb14 := NB127_128.out
     have hnc14 := NB128_127.out
     have hcz15 := blk_cell BK127.out
     have hfz15 := blk_frozen BK127.out
     go_wp2_with (first | (go_at_call 59; (with_reducible refine (reject_isNull.calls a0_3 a0_4 a0_5 a0_6 a0_7 a1 true _ A12.out).mono ?_); rintro e w16 ⟨rfl, hb⟩; replace BK127 := Aside0.mk (blk_below (bk_ BK127.out) hb); replace BK128 := Aside0.mk (blk_below (bk_ BK128.out) hb); replace HB := Aside0.mk (below_step (bl2_ HB.out GE127.out GE128.out) hb); (try clear hb)))
     go_meet
     case rel => exact ⟨_, (true), (by first | rfl | (simp; done) | (simp [*]; done) | (simp; decide)), H', ⟨by first | omega | exact Nat.le_refl _⟩, ⟨bk_ BK127.out⟩, ⟨bk_ BK128.out⟩, ⟨bl2_ HB.out GE127.out GE128.out⟩⟩
    ·replace c13 := Bool.eq_false_iff.mpr c13
     subst c13
     have H1 : ((reject_isNull.f a0_8 a0_9 a0_10 a0_11 a0_12 a1).bind fun t130 => (reject_compares.j0 k t130 a0_0 a0_1 a0_2 a0_3 a0_4 a0_5 a0_6 a0_7 a0_8 a0_9 a0_10 a0_11 a0_12 l0_13)) = some (r1, r2, r3) := by rw [if_neg (show ¬ (false = true) by decide)] at H; exact H
     clear H
     have H := H1
     clear H1
     replace H := Option.bind_eq_some_iff.mp H
     obtain ⟨t130, A170, H⟩ := H
     replace H : (reject_compares.j0 k t130 a0_0 a0_1 a0_2 a0_3 a0_4 a0_5 a0_6 a0_7 a0_8 a0_9 a0_10 a0_11 a0_12 l0_13) = some (r1, r2, r3) := H
     have A17 := Aside0.mk A170
     clear A170
     have H' := Aside0.mk H
     clear H
     have hnb18 := NB127_128.out
     have hnc18 := NB128_127.out
     have hcz19 := blk_cell BK127.out
     have hfz19 := blk_frozen BK127.out
     go_wp2_with (first | (go_at_call 59; (with_reducible refine (reject_isNull.calls a0_3 a0_4 a0_5 a0_6 a0_7 a1 false _ A12.out).mono ?_); rintro e w20 ⟨rfl, hb⟩; replace BK127 := Aside0.mk (blk_below (bk_ BK127.out) hb); replace BK128 := Aside0.mk (blk_below (bk_ BK128.out) hb); replace HB := Aside0.mk (below_step (bl2_ HB.out GE127.out GE128.out) hb); (try clear hb); have hcz21 := blk_cell BK127.out; have hfz21 := blk_frozen BK127.out; have hfz21_13 := blk_frozen BK127.out 13) | (go_at_call 59; (with_reducible refine (reject_isNull.calls a0_8 a0_9 a0_10 a0_11 a0_12 a1 t130 _ A17.out).mono ?_); rintro e w22 ⟨rfl, hb⟩; replace BK127 := Aside0.mk (blk_below (bk_ BK127.out) hb); replace BK128 := Aside0.mk (blk_below (bk_ BK128.out) hb); replace HB := Aside0.mk (below_step (bl2_ HB.out GE127.out GE128.out) hb); (try clear hb)))
     go_meet
     case rel => exact ⟨_, (t130), (by first | rfl | (simp; done) | (simp [*]; done) | (simp; decide)), H', ⟨by first | omega | exact Nat.le_refl _⟩, ⟨bk_ BK127.out⟩, ⟨bk_ BK128.out⟩, ⟨bl2_ HB.out GE127.out GE128.out⟩⟩
 case rest =>
  clear HC3
  try clear c1
  try clear p2
  try clear c5
  try clear c6
  try clear c6b0
  try clear c7
  try clear c9
  try clear c9b0
  try clear c10
  try clear c13
  try clear c14
  try clear c18
  try clear hcz11
  try clear hcz15
  try clear hcz19
  try clear hcz21
  try clear hcz8
  try clear hfz11
  try clear hfz15
  try clear hfz19
  try clear hfz21
  try clear hfz21_13
  try clear hfz21
  try clear hfz8
  obtain ⟨kq, x5_2, rfl, HA, HJ2, BK127, BK128, HB⟩ := hcut
  cases kq with
  | zero => exact absurd HA.out (by simp [reject_compares.j0])
  | succ kj2 =>
   have H := HA.out
   clear HA
   simp only [reject_compares.j0] at H
   by_cases c23 : x5_2 = true
   ·subst c23
    have H1 : ((reject_only.f kj2 1).bind fun bt131 => (some (bt131.1, bt131.2.1, bt131.2.2))) = some (r1, r2, r3) := by rw [if_pos rfl] at H; exact H
    clear H
    have H := H1
    clear H1
    replace H := Option.bind_eq_some_iff.mp H
    obtain ⟨⟨t131, t132, t133⟩, A240, H⟩ := H
    replace H : (some (t131, t132, t133)) = some (r1, r2, r3) := H
    have A24 := Aside0.mk A240
    clear A240
    simp only [Option.some.injEq, Prod.mk.injEq] at H
    obtain ⟨rfl, rfl, rfl⟩ := H
    go_wp2_with (first | ((with_reducible refine gate_callee (f := 57) rfl ?_); refine goesL_ (some 26) rfl rfl Try.func57 (by kernel_rfl) rfl #[.int .i64 1] rfl (by (try simp only [List.map_toArray, List.map_cons, List.map_nil]); first | done | rfl | (simp only [List.length_drop, List.length_take]; rfl)) ?_; (with_reducible refine (reject_only.calls kj2 1 t131 t132 t133 _ A24.out).mono ?_); rintro e w25 ⟨rfl, hb⟩; refine ⟨_, rfl, ?_⟩; replace BK127 := Aside0.mk (blk_below (bk_ BK127.out) hb); replace BK128 := Aside0.mk (blk_below (bk_ BK128.out) hb); replace HB := Aside0.mk (below_step (bl2_ HB.out GE127.out GE128.out) hb); (try clear hb); have hnb26 := NB128_127.out; have hnc26 := NB127_128.out; have hcz27 := blk_cell BK128.out; have hfz27_0 := blk_frozen BK128.out 0; have hfz27_1 := blk_frozen BK128.out 1; have hfz27_2 := blk_frozen BK128.out 2))
    refine bodyPost_ret (results_cell_row rfl _ _ gb128 39 #[.bool t131, .bool t132, .bool t133] (0, 0) _ rfl (by (with_reducible repeat (first | refine blk_drewN ?_ _ | refine blk_drew ?_ | refine blk_alloc ?_ _)); refine blk_put (cs := #[.bool t131, .bool t132, .bool false]) ?_ 2 _ rfl; (with_reducible repeat (first | refine blk_drewN ?_ _ | refine blk_drew ?_ | refine blk_alloc ?_ _)); refine blk_put (cs := #[.bool t131, .bool false, .bool false]) ?_ 1 _ rfl; (with_reducible repeat (first | refine blk_drewN ?_ _ | refine blk_drew ?_ | refine blk_alloc ?_ _)); refine blk_put (cs := #[.bool false, .bool false, .bool false]) ?_ 0 _ rfl; (with_reducible repeat (first | refine blk_drewN ?_ _ | refine blk_drew ?_ | refine blk_alloc ?_ _)); exact BK128.out) Try.underlying39 rfl (by kernel_rfl)) rfl ?_
    exact ⟨by first | rfl | (simp [errW_none, errW_some] <;> rfl) | (simp [*, errW_none, errW_some] <;> rfl), by repeat (first | (with_reducible first | exact HB.out | apply below_alloc | apply pw_below_drewN | apply below_drew1 | refine below_set ?_ GE127.out | refine below_set ?_ GE128.out) | exact HB.out)⟩
   ·replace c23 := Bool.eq_false_iff.mpr c23
    subst c23
    have H1 : (if a0_3 = 1 then (reject_compares.j1 kj2 false a0_0 a0_1 a0_2 a0_3 a0_4 a0_5 a0_6 a0_7 a0_8 a0_9 a0_10 a0_11 a0_12 l0_13) else (reject_compares.j1 kj2 (a0_8 != 1) a0_0 a0_1 a0_2 a0_3 a0_4 a0_5 a0_6 a0_7 a0_8 a0_9 a0_10 a0_11 a0_12 l0_13)) = some (r1, r2, r3) := by rw [if_neg (show ¬ (false = true) by decide)] at H; exact H
    clear H
    have H := H1
    clear H1
    have HC28 := Aside0.mk H
    clear H
    go_upto_region 3 with (fail)
    go_cut [27] (fun v27 wc => ∃ (kq : Nat) (x27_27 : Bool), v27 = .bool x27_27 ∧ Aside0 (reject_compares.j1 kq x27_27 a0_0 a0_1 a0_2 a0_3 a0_4 a0_5 a0_6 a0_7 a0_8 a0_9 a0_10 a0_11 a0_12 l0_13 = some (r1, r2, r3)) ∧ Aside0 (kq ≤ kj2) ∧ Aside0 (wc.heap[gb127]? = some (.cells #[.int .i64 a0_0, .int .i64 a0_1, .int .i64 a0_2, .int .i64 a0_3, .int .i64 a0_4, .int .i64 a0_5, .bool a0_6, .int .i64 a0_7, .int .i64 a0_8, .int .i64 a0_9, .int .i64 a0_10, .bool a0_11, .int .i64 a0_12, (.slice A0_13 l0_13.length c0_13)] 46 (0, 0))) ∧ Aside0 (wc.heap[gb128]? = some (.cells #[.bool false, .bool false, .bool false] 39 (0, 0))) ∧ Aside0 (Below w.heap.size w wc))
    case first =>
     have H := HC28.out
     clear HC28
     by_cases c29 : a0_3 = 1
     ·rw [if_pos c29] at H
      have c29b0 : (a0_3 == 1) = true := beq_iff_eq.mpr c29
      have c29b1 : (a0_3 != 1) = false := bne_eq_false_iff_eq.mpr c29
      clear c29
      (first | rw [c29b0] | (simp only [i64_w, i32_w]; rw [c29b0]) | skip)
      have H' := Aside0.mk H
      clear H
      have hnb30 := NB127_128.out
      have hnc30 := NB128_127.out
      have hcz31 := blk_cell BK127.out
      have hfz31 := blk_frozen BK127.out
      go_wp2
      go_meet
      case rel => exact ⟨_, (false), (by first | rfl | (simp; done) | (simp [*]; done) | (simp; decide)), H', ⟨by have := HJ2.out; first | omega | exact Nat.le_refl _⟩, ⟨bk_ BK127.out⟩, ⟨bk_ BK128.out⟩, ⟨bl2_ HB.out GE127.out GE128.out⟩⟩
     ·rw [if_neg c29] at H
      have c29b0 : (a0_3 == 1) = false := beq_eq_false_iff_ne.mpr c29
      have c29b1 : (a0_3 != 1) = true := bne_iff_ne.mpr c29
      (first | rw [c29b0] | (simp only [i64_w, i32_w]; rw [c29b0]) | skip)
      have H' := Aside0.mk H
      clear H
      have hnb32 := NB127_128.out
      have hnc32 := NB128_127.out
      have hcz33 := blk_cell BK127.out
      have hfz33 := blk_frozen BK127.out
      go_wp2
      go_meet
      case rel => exact ⟨_, ((a0_8 != 1)), (by first | rfl | (simp; done) | (simp [*]; done) | (simp; decide)), H', ⟨by have := HJ2.out; first | omega | exact Nat.le_refl _⟩, ⟨bk_ BK127.out⟩, ⟨bk_ BK128.out⟩, ⟨bl2_ HB.out GE127.out GE128.out⟩⟩
    case rest =>
     clear HC28
     try clear c1
     try clear c2
     try clear p2
     try clear c3
     try clear c5
     try clear c6
     try clear c6b0
     try clear c7
     try clear c9
     try clear c9b0
     try clear c10
     try clear c13
     try clear c14
     try clear c18
     try clear c23
     try clear c26
     try clear c29
     try clear c29b0
     try clear c29b1
     try clear c30
     try clear c32
     try clear hcz11
     try clear hcz15
     try clear hcz19
     try clear hcz21
     try clear hcz27
     try clear hcz31
     try clear hcz33
     try clear hcz8
     try clear hfz11
     try clear hfz15
     try clear hfz19
     try clear hfz21
     try clear hfz21_13
     try clear hfz21
     try clear hfz27_0
     try clear hfz27_1
     try clear hfz27_2
     try clear hfz31
     try clear hfz33
     try clear hfz8
     try clear p2
     obtain ⟨kq, x27_27, rfl, HA, HJ27, BK127, BK128, HB⟩ := hcut
     cases kq with
     | zero => exact absurd HA.out (by simp [reject_compares.j1])
     | succ kj27 =>
      have H := HA.out
      clear HA
      simp only [reject_compares.j1] at H
      by_cases c34 : x27_27 = true
      ·subst c34
       have H1 : ((value_Compare.f a0_2 a0_6 a0_7 a0_11 a0_12).bind fun t134 => ((reject_only.f kj27 t134).bind fun bt135 => (some (bt135.1, bt135.2.1, bt135.2.2)))) = some (r1, r2, r3) := by rw [if_pos rfl] at H; exact H
       clear H
       have H := H1
       clear H1
       replace H := Option.bind_eq_some_iff.mp H
       obtain ⟨t134, A350, H⟩ := H
       replace H : ((reject_only.f kj27 t134).bind fun bt135 => (some (bt135.1, bt135.2.1, bt135.2.2))) = some (r1, r2, r3) := H
       have A35 := Aside0.mk A350
       clear A350
       replace H := Option.bind_eq_some_iff.mp H
       obtain ⟨⟨t135, t136, t137⟩, A360, H⟩ := H
       replace H : (some (t135, t136, t137)) = some (r1, r2, r3) := H
       have A36 := Aside0.mk A360
       clear A360
       simp only [Option.some.injEq, Prod.mk.injEq] at H
       obtain ⟨rfl, rfl, rfl⟩ := H
       have hnb37 := NB127_128.out
       have hnc37 := NB128_127.out
       have hcz38 := blk_cell BK127.out
       have hfz38 := blk_frozen BK127.out
       go_wp2_with (first | ((with_reducible refine gate_callee (f := 68) rfl ?_); refine goesL_ (some 46) rfl rfl Try.func68 (by kernel_rfl) rfl #[.int .i64 a0_2, .agg #[.bool a0_6, .int .i64 a0_7], .agg #[.bool a0_11, .int .i64 a0_12]] rfl (by (try simp only [List.map_toArray, List.map_cons, List.map_nil]); first | done | rfl | (simp only [List.length_drop, List.length_take]; rfl)) ?_; (with_reducible refine (value_Compare.calls a0_2 a0_6 a0_7 a0_11 a0_12 t134 _ A35.out).mono ?_); rintro e w39 ⟨rfl, hb⟩; refine ⟨_, rfl, ?_⟩; replace BK127 := Aside0.mk (blk_below (bk_ BK127.out) hb); replace BK128 := Aside0.mk (blk_below (bk_ BK128.out) hb); replace HB := Aside0.mk (below_step (bl2_ HB.out GE127.out GE128.out) hb); (try clear hb)) | ((with_reducible refine gate_callee (f := 57) rfl ?_); refine goesL_ (some 47) rfl rfl Try.func57 (by kernel_rfl) rfl #[.int .i64 t134] rfl (by (try simp only [List.map_toArray, List.map_cons, List.map_nil]); first | done | rfl | (simp only [List.length_drop, List.length_take]; rfl)) ?_; (with_reducible refine (reject_only.calls kj27 t134 t135 t136 t137 _ A36.out).mono ?_); rintro e w40 ⟨rfl, hb⟩; refine ⟨_, rfl, ?_⟩; replace BK127 := Aside0.mk (blk_below (bk_ BK127.out) hb); replace BK128 := Aside0.mk (blk_below (bk_ BK128.out) hb); replace HB := Aside0.mk (below_step (bl2_ HB.out GE127.out GE128.out) hb); (try clear hb); have hcz41 := blk_cell BK128.out; have hfz41_0 := blk_frozen BK128.out 0; have hfz41_1 := blk_frozen BK128.out 1; have hfz41_2 := blk_frozen BK128.out 2))
       refine bodyPost_ret (results_cell_row rfl _ _ gb128 39 #[.bool t135, .bool t136, .bool t137] (0, 0) _ rfl (by (with_reducible repeat (first | refine blk_drewN ?_ _ | refine blk_drew ?_ | refine blk_alloc ?_ _)); refine blk_put (cs := #[.bool t135, .bool t136, .bool false]) ?_ 2 _ rfl; (with_reducible repeat (first | refine blk_drewN ?_ _ | refine blk_drew ?_ | refine blk_alloc ?_ _)); refine blk_put (cs := #[.bool t135, .bool false, .bool false]) ?_ 1 _ rfl; (with_reducible repeat (first | refine blk_drewN ?_ _ | refine blk_drew ?_ | refine blk_alloc ?_ _)); refine blk_put (cs := #[.bool false, .bool false, .bool false]) ?_ 0 _ rfl; (with_reducible repeat (first | refine blk_drewN ?_ _ | refine blk_drew ?_ | refine blk_alloc ?_ _)); exact BK128.out) Try.underlying39 rfl (by kernel_rfl)) rfl ?_
       exact ⟨by first | rfl | (simp [errW_none, errW_some] <;> rfl) | (simp [*, errW_none, errW_some] <;> rfl), by repeat (first | (with_reducible first | exact HB.out | apply below_alloc | apply pw_below_drewN | apply below_drew1 | refine below_set ?_ GE127.out | refine below_set ?_ GE128.out) | exact HB.out)⟩
      ·replace c34 := Bool.eq_false_iff.mpr c34
       subst c34
       have H1 : (some (true, true, true)) = some (r1, r2, r3) := by rw [if_neg (show ¬ (false = true) by decide)] at H; exact H
       clear H
       have H := H1
       clear H1
       simp only [Option.some.injEq, Prod.mk.injEq] at H
       obtain ⟨rfl, rfl, rfl⟩ := H
       have hnb42 := NB128_127.out
       have hnc42 := NB127_128.out
       have hcz43 := blk_cell BK128.out
       have hfz43 := blk_frozen BK128.out
       go_wp2
       refine bodyPost_ret (results_cell_row rfl _ _ gb128 39 #[.bool true, .bool true, .bool true] (0, 0) _ rfl (by (with_reducible repeat (first | refine blk_drewN ?_ _ | refine blk_drew ?_ | refine blk_alloc ?_ _)); refine blk_put (cs := #[.bool true, .bool true, .bool false]) ?_ 2 _ rfl; (with_reducible repeat (first | refine blk_drewN ?_ _ | refine blk_drew ?_ | refine blk_alloc ?_ _)); refine blk_put (cs := #[.bool true, .bool false, .bool false]) ?_ 1 _ rfl; (with_reducible repeat (first | refine blk_drewN ?_ _ | refine blk_drew ?_ | refine blk_alloc ?_ _)); refine blk_put (cs := #[.bool false, .bool false, .bool false]) ?_ 0 _ rfl; (with_reducible repeat (first | refine blk_drewN ?_ _ | refine blk_drew ?_ | refine blk_alloc ?_ _)); exact BK128.out) Try.underlying39 rfl (by kernel_rfl)) rfl ?_
       exact ⟨by first | rfl | (simp [errW_none, errW_some] <;> rfl) | (simp [*, errW_none, errW_some] <;> rfl), by repeat (first | (with_reducible first | exact HB.out | apply below_alloc | apply pw_below_drewN | apply below_drew1 | refine below_set ?_ GE127.out | refine below_set ?_ GE128.out) | exact HB.out)⟩

/-! ### logic_Or: function 61 -/
def logic_Or.f (k : Nat) (l0 : List Int) : Option (Int) := (logic_first.f k l0 2 1 0).bind fun t138 => (some t138)
theorem logic_Or.mono : ∀ a0 k, LeO (logic_Or.f k a0) (logic_Or.f (k + 1) a0) := by
  intro a0 k
  unfold logic_Or.f
  repeat' first
      | (with_reducible exact logic_first.mono _ _ _ _ _)
      | (with_reducible exact LeO.refl _)
      | (with_reducible exact LeO.none _)
      | (with_reducible refine LeO.ite ?_ ?_)
      | (with_reducible refine LeO.bind ?_ (fun _ => ?_))
      | exact logic_first.mono _ _ _ _ _
      | exact LeO.none _
      | refine LeO.ite ?_ ?_
      | refine LeO.bind ?_ (fun _ => ?_)
set_option maxHeartbeats 8000000 in
set_option maxRecDepth 100000 in
theorem logic_Or.calls (k : Nat) (A0 : Option Addr) (c0 : Nat) (l0 : List Int) (r : Int) (w : World) (hr0 : Kd.C (Kd.int .i64) w A0 l0.length l0) (hc0 : l0.length ≤ c0) (h : logic_Or.f k l0 = some r) :
    Calls Try.prog 61 #[.slice A0 l0.length c0] w fun e w' => e = .returned (.int .i64 r) ∧ Below w.heap.size w w' := by
  have HR0 := Aside0.mk hr0
  have HC0 := Aside0.mk hc0
  clear hr0 hc0
  have HB := Aside0.mk (Below.refl w.heap.size w)
  have H : ((logic_first.f k l0 2 1 0).bind fun t138 => (some t138)) = some r := h
  clear h
  replace H := Option.bind_eq_some_iff.mp H
  obtain ⟨t138, A20, H⟩ := H
  replace H : (some t138) = some r := H
  have A2 := Aside0.mk A20
  clear A20
  obtain rfl := Option.some.inj H
  go_enter Try.func61, Try.ntmps61
  go_wp2_with (first | ((with_reducible refine gate_callee (f := 91) rfl ?_); refine goesL_ (some 4) rfl rfl Try.func91 (by kernel_rfl) rfl #[.slice A0 l0.length c0, .int .i64 2, .int .i64 1, .int .i64 0] rfl (by (try simp only [List.map_toArray, List.map_cons, List.map_nil]); first | done | rfl | (simp only [List.length_drop, List.length_take]; rfl)) ?_; (with_reducible refine (logic_first.calls k _ _ l0 2 1 0 t138 _ ?side1 ?side2 A2.out).mono ?_); (case side1 => repeat (first | exact HR0.out | (with_reducible refine Kd.C_alloc ?_ _) | (with_reducible refine Kd.C_drewN ?_ _) | (with_reducible refine Kd.C_drew ?_))); (case side2 => exact HC0.out); rintro e w3 ⟨rfl, hb⟩; refine ⟨_, rfl, ?_⟩; have n0_ := Aside0.mk (below_step (by repeat (first | (with_reducible first | exact HB.out | apply below_alloc | apply pw_below_drewN | apply below_drew1) | exact HB.out)) hb); clear HB; have HB := n0_; clear n0_; (try clear hb); (try clear hb2); (try clear hk); (try clear hi)))
  go_ret
  exact ⟨by first | rfl | (simp [errW_none, errW_some] <;> rfl) | (simp [*, errW_none, errW_some] <;> rfl), by repeat (first | (with_reducible first | exact HB.out | apply below_alloc | apply pw_below_drewN | apply below_drew1) | exact HB.out)⟩

-- NOT PRINTED: function 62 (reject_both)

/-! ### reject_both_at_logic_Or: function 1000002 (by hand) -/
def reject_both_at_logic_Or.m (i j : Nat) : Nat := max i j
theorem reject_both_at_logic_Or.m_lt {i j : Nat} (hi : i < 3) (hj : j < 3) : reject_both_at_logic_Or.m i j < 3 := by unfold reject_both_at_logic_Or.m; omega
theorem reject_both_at_logic_Or.m_f {i j : Nat} (hi : i < 3) (hj : j < 3) : logic_Or.f 9 [(i : Int), (j : Int)] = some ((reject_both_at_logic_Or.m i j : Nat) : Int) := by
 have h1 : i = 0 ∨ i = 1 ∨ i = 2 := by omega
 have h2 : j = 0 ∨ j = 1 ∨ j = 2 := by omega
 rcases h1 with rfl | rfl | rfl <;> rcases h2 with rfl | rfl | rfl <;> decide +kernel
def reject_both_at_logic_Or.sel (x0 x1 x2 : Bool) (i : Nat) : Bool := if i = 0 then x0 else if i = 1 then x1 else x2
def reject_both_at_logic_Or.out (a0 a1 a2 b0 b1 b2 : Bool) : Nat → Nat → Bool
 | 0, _ => false
 | n + 1, t => reject_both_at_logic_Or.out a0 a1 a2 b0 b1 b2 n t || (reject_both_at_logic_Or.sel a0 a1 a2 (n / 3) && reject_both_at_logic_Or.sel b0 b1 b2 (n % 3) && decide (reject_both_at_logic_Or.m (n / 3) (n % 3) = t))
def reject_both_at_logic_Or.cs (a0 a1 a2 b0 b1 b2 : Bool) (n : Nat) : Array Value := #[.bool (reject_both_at_logic_Or.out a0 a1 a2 b0 b1 b2 n 0), .bool (reject_both_at_logic_Or.out a0 a1 a2 b0 b1 b2 n 1), .bool (reject_both_at_logic_Or.out a0 a1 a2 b0 b1 b2 n 2)]
theorem reject_both_at_logic_Or.cs_off {a0 a1 a2 b0 b1 b2 : Bool} {i j : Nat} (hj : j < 3) (h : (reject_both_at_logic_Or.sel a0 a1 a2 i && reject_both_at_logic_Or.sel b0 b1 b2 j) = false) : reject_both_at_logic_Or.cs a0 a1 a2 b0 b1 b2 (3 * i + j + 1) = reject_both_at_logic_Or.cs a0 a1 a2 b0 b1 b2 (3 * i + j) := by
 have e1 : (3 * i + j) / 3 = i := by omega
 have e2 : (3 * i + j) % 3 = j := by omega
 simp only [reject_both_at_logic_Or.cs, reject_both_at_logic_Or.out, e1, e2, h, Bool.false_and, Bool.or_false]
theorem reject_both_at_logic_Or.cs_on {a0 a1 a2 b0 b1 b2 : Bool} {i j : Nat} (hi : i < 3) (hj : j < 3) (h : (reject_both_at_logic_Or.sel a0 a1 a2 i && reject_both_at_logic_Or.sel b0 b1 b2 j) = true) : (reject_both_at_logic_Or.cs a0 a1 a2 b0 b1 b2 (3 * i + j)).setIfInBounds (reject_both_at_logic_Or.m i j) (.bool true) = reject_both_at_logic_Or.cs a0 a1 a2 b0 b1 b2 (3 * i + j + 1) := by
 have e1 : (3 * i + j) / 3 = i := by omega
 have e2 : (3 * i + j) % 3 = j := by omega
 have hm := reject_both_at_logic_Or.m_lt hi hj
 have h3 : reject_both_at_logic_Or.m i j = 0 ∨ reject_both_at_logic_Or.m i j = 1 ∨ reject_both_at_logic_Or.m i j = 2 := by omega
 rcases h3 with h3 | h3 | h3 <;> simp [reject_both_at_logic_Or.cs, reject_both_at_logic_Or.out, e1, e2, h, h3]
theorem reject_both_at_logic_Or.sel_cell {w : World} {g : Nat} {x0 x1 x2 : Bool} (h : w.heap[g]? = some (.cells #[.bool x0, .bool x1, .bool x2] 39 (0, 0))) {i : Nat} (hi : i < 3) : w.cell? ⟨g, i, none⟩ = some (.bool (reject_both_at_logic_Or.sel x0 x1 x2 i)) := by
 have h1 : i = 0 ∨ i = 1 ∨ i = 2 := by omega
 rcases h1 with rfl | rfl | rfl <;> exact (blk_cell h _).trans rfl
def reject_both_at_logic_Or.f (k : Nat) (a0_0 a0_1 a0_2 a1_0 a1_1 a1_2 : Bool) : Option (Bool × Bool × Bool) := some (reject_both_at_logic_Or.out a0_0 a0_1 a0_2 a1_0 a1_1 a1_2 9 0, reject_both_at_logic_Or.out a0_0 a0_1 a0_2 a1_0 a1_1 a1_2 9 1, reject_both_at_logic_Or.out a0_0 a0_1 a0_2 a1_0 a1_1 a1_2 9 2)
theorem reject_both_at_logic_Or.mono : ∀ a0 a1 a2 a3 a4 a5 k, LeO (reject_both_at_logic_Or.f k a0 a1 a2 a3 a4 a5) (reject_both_at_logic_Or.f (k + 1) a0 a1 a2 a3 a4 a5) := fun _ _ _ _ _ _ _ => LeO.refl _
set_option maxHeartbeats 8000000 in
set_option maxRecDepth 100000 in
theorem reject_both_at_logic_Or.calls (k : Nat) (a0_0 : Bool) (a0_1 : Bool) (a0_2 : Bool) (a1_0 : Bool) (a1_1 : Bool) (a1_2 : Bool) (r1 : Bool) (r2 : Bool) (r3 : Bool) (w : World) (h : reject_both_at_logic_Or.f k a0_0 a0_1 a0_2 a1_0 a1_1 a1_2 = some (r1, r2, r3)) :
  Calls Try.prog 62 #[.agg #[.bool a0_0, .bool a0_1, .bool a0_2], .agg #[.bool a1_0, .bool a1_1, .bool a1_2], .func (.func 61) #[] #[]] w fun e w' => e = .returned (.agg #[.bool r1, .bool r2, .bool r3]) ∧ Below w.heap.size w w' := by
 have HR := Aside0.mk (Option.some.inj h)
 clear h
 have hu39 := Try.underlying39
 have HB := Aside0.mk (Below.refl w.heap.size w)
 go_enter Try.func62, Try.ntmps62
 go_wp2_with (first
  | ((with_reducible refine gate_dst (N := 3) rfl ?_); refine box_event ?hg (N := 3) ?hd (cs := #[.bool a0_0, .bool a0_1, .bool a0_2]) (t := 39) ?hr ?_; (case hd => rfl); (case hg => rfl); (case hr => first | (go_simp; done) | (go_simp; rfl)); intro g1 hg w4 hbox hb; have B1 := Aside0.mk hbox; have G1 := Aside0.mk (show w.heap.size ≤ g1 by rw [hg]; exact below_size HB.out); have HB' := Aside0.mk (below_step HB.out hb); clear HB; have HB := HB'; clear HB' hb hbox hg)
  | ((with_reducible refine gate_dst (N := 4) rfl ?_); refine box_event ?hg (N := 4) ?hd (cs := #[.bool a1_0, .bool a1_1, .bool a1_2]) (t := 39) ?hr ?_; (case hd => rfl); (case hg => rfl); (case hr => first | (go_simp; done) | (go_simp; rfl)); intro g2 hg w5 hbox hb; have N12 := Aside0.mk (show g1 ≠ g2 by rw [hg]; exact Nat.ne_of_lt (blk_lt B1.out)); have B1' := Aside0.mk (blk_below B1.out hb); clear B1; have B1 := B1'; clear B1'; have B2 := Aside0.mk hbox; have HB' := Aside0.mk (below_step HB.out hb); clear HB; have HB := HB'; clear HB' hb hbox hg)
  | ((with_reducible refine gate_dst (N := 6) rfl ?_); refine box_event ?hg (N := 6) ?hd (cs := #[.bool false, .bool false, .bool false]) (t := 39) ?hr ?_; (case hd => rfl); (case hg => rfl); (case hr => first | (go_simp; done) | (go_simp; rfl)); intro g3 hg w6 hbox hb; have N13 := Aside0.mk (show g1 ≠ g3 by rw [hg]; exact Nat.ne_of_lt (blk_lt B1.out)); have N23 := Aside0.mk (show g2 ≠ g3 by rw [hg]; exact Nat.ne_of_lt (blk_lt B2.out)); have G3 := Aside0.mk (show w.heap.size ≤ g3 by rw [hg]; exact below_size HB.out); have B1' := Aside0.mk (blk_below B1.out hb); clear B1; have B1 := B1'; clear B1'; have B2' := Aside0.mk (blk_below B2.out hb); clear B2; have B2 := B2'; clear B2'; have B3 := Aside0.mk hbox; have HB' := Aside0.mk (below_step HB.out hb); clear HB; have HB := HB'; clear HB' hb hbox hg)
  | ((with_reducible refine gate_dst (N := 7) rfl ?_); refine box_event ?hg (N := 7) ?hd (cs := #[.bool false, .bool false, .bool false]) (t := 39) ?hr ?_; (case hd => rfl); (case hg => rfl); (case hr => first | (go_simp; done) | (go_simp; rfl)); intro g4 hg w7 hbox hb; have N14 := Aside0.mk (show g1 ≠ g4 by rw [hg]; exact Nat.ne_of_lt (blk_lt B1.out)); have N24 := Aside0.mk (show g2 ≠ g4 by rw [hg]; exact Nat.ne_of_lt (blk_lt B2.out)); have N34 := Aside0.mk (show g3 ≠ g4 by rw [hg]; exact Nat.ne_of_lt (blk_lt B3.out)); have G4 := Aside0.mk (show w.heap.size ≤ g4 by rw [hg]; exact below_size HB.out); have B1' := Aside0.mk (blk_below B1.out hb); clear B1; have B1 := B1'; clear B1'; have B2' := Aside0.mk (blk_below B2.out hb); clear B2; have B2 := B2'; clear B2'; have B3' := Aside0.mk (blk_below B3.out hb); clear B3; have B3 := B3'; clear B3'; have B4 := Aside0.mk hbox; have HB' := Aside0.mk (below_step HB.out hb); clear HB; have HB := HB'; clear HB' hb hbox hg))
 go_loopg [10] 3 (fun kq v10 w' => ∃ i : Nat, v10 = .int .i64 (i : Int) ∧ Aside0 (kq + i = 3) ∧ Aside0 (w'.heap[g1]? = some (.cells #[.bool a0_0, .bool a0_1, .bool a0_2] 39 (0, 0))) ∧ Aside0 (w'.heap[g2]? = some (.cells #[.bool a1_0, .bool a1_1, .bool a1_2] 39 (0, 0))) ∧ Aside0 (w'.heap[g3]? = some (.cells #[.bool false, .bool false, .bool false] 39 (0, 0))) ∧ Aside0 (w'.heap[g4]? = some (.cells (reject_both_at_logic_Or.cs a0_0 a0_1 a0_2 a1_0 a1_1 a1_2 (3 * i)) 39 (0, 0))) ∧ Aside0 (Below w.heap.size w w'))
 case atStart => exact ⟨0, rfl, ⟨rfl⟩, ⟨by exact B1.out⟩, ⟨by exact B2.out⟩, ⟨by exact B3.out⟩, ⟨by exact B4.out⟩, ⟨by exact HB.out⟩⟩
 case round =>
  clear B1 B2 B3 B4 HB
  obtain ⟨i, rfl, HI, B1, B2, B3, B4, HB⟩ := hrel
  by_cases hi : i < 3
  ·cases gk with
   | zero => exact absurd HI.out (by omega)
   | succ ki =>
   have ci : decide ((i : Int) < 3) = true := by simp; omega
   go_wp2
   go_loopg [13] 3 (fun kq v13 w' => ∃ j : Nat, v13 = .int .i64 (j : Int) ∧ Aside0 (kq + j = 3) ∧ Aside0 (w'.heap[g1]? = some (.cells #[.bool a0_0, .bool a0_1, .bool a0_2] 39 (0, 0))) ∧ Aside0 (w'.heap[g2]? = some (.cells #[.bool a1_0, .bool a1_1, .bool a1_2] 39 (0, 0))) ∧ Aside0 (w'.heap[g3]? = some (.cells #[.bool false, .bool false, .bool false] 39 (0, 0))) ∧ Aside0 (w'.heap[g4]? = some (.cells (reject_both_at_logic_Or.cs a0_0 a0_1 a0_2 a1_0 a1_1 a1_2 (3 * i + j)) 39 (0, 0))) ∧ Aside0 (Below w.heap.size w w'))
   case atStart => exact ⟨0, rfl, ⟨rfl⟩, ⟨by exact B1.out⟩, ⟨by exact B2.out⟩, ⟨by exact B3.out⟩, ⟨by exact B4.out⟩, ⟨by exact HB.out⟩⟩
   case round =>
    clear B1 B2 B3 B4 HB
    obtain ⟨j, rfl, HJ, B1, B2, B3, B4, HB⟩ := hrel
    obtain ⟨kj, rfl⟩ : ∃ q, q = gk := ⟨_, rfl⟩
    by_cases hj : j < 3
    ·have cj : decide ((j : Int) < 3) = true := by simp; omega
     have wi : IntKind.i64.wrap ((i : Int) + 1) = ((i + 1 : Nat) : Int) := by rw [IntKind.wrap_i64]; omega
     have wj : IntKind.i64.wrap ((j : Int) + 1) = ((j + 1 : Nat) : Int) := by rw [IntKind.wrap_i64]; omega
     have hA := reject_both_at_logic_Or.sel_cell B1.out hi
     have hB := reject_both_at_logic_Or.sel_cell B2.out hj
     have li : (i : Int) < 3 := by omega
     have lj : (j : Int) < 3 := by omega
     have fA := blk_frozen B1.out i
     have fB := blk_frozen B2.out j
     obtain ⟨x, hx⟩ : ∃ x, reject_both_at_logic_Or.sel a0_0 a0_1 a0_2 i = x := ⟨_, rfl⟩
     obtain ⟨y, hy⟩ : ∃ y, reject_both_at_logic_Or.sel a1_0 a1_1 a1_2 j = y := ⟨_, rfl⟩
     rw [hx] at hA
     rw [hy] at hB
     have HX := Aside0.mk hx
     have HY := Aside0.mk hy
     clear hx hy
     cases kj with
     | zero => exact absurd HJ.out (by omega)
     | succ kj =>
     cases x with
     | false =>
      go_wp2
      go_roundg kj
      case measure => omega
      case rel => exact ⟨j + 1, by simp, ⟨by have := HJ.out; omega⟩, ⟨by exact B1.out⟩, ⟨by exact B2.out⟩, ⟨by exact B3.out⟩, ⟨by rw [← Nat.add_assoc, reject_both_at_logic_Or.cs_off hj (by rw [HX.out]; rfl)]; exact B4.out⟩, ⟨by exact HB.out⟩⟩
     | true =>
      cases y with
      | false =>
       go_wp2
       go_roundg kj
       case measure => omega
       case rel => exact ⟨j + 1, by simp, ⟨by have := HJ.out; omega⟩, ⟨by exact B1.out⟩, ⟨by exact B2.out⟩, ⟨by exact B3.out⟩, ⟨by rw [← Nat.add_assoc, reject_both_at_logic_Or.cs_off hj (by rw [HX.out, HY.out]; rfl)]; exact B4.out⟩, ⟨by exact HB.out⟩⟩
      | true =>
       have HS := Aside0.mk (reject_both_at_logic_Or.cs_on (a0 := a0_0) (a1 := a0_1) (a2 := a0_2) (b0 := a1_0) (b1 := a1_1) (b2 := a1_2) hi hj (by rw [HX.out, HY.out]; rfl))
       have HM := Aside0.mk (reject_both_at_logic_Or.m_f hi hj)
       obtain ⟨tt, htt⟩ : ∃ tt, reject_both_at_logic_Or.m i j = tt := ⟨_, rfl⟩
       have ht3 : tt < 3 := by rw [← htt]; exact reject_both_at_logic_Or.m_lt hi hj
       have lt3 : (tt : Int) < 3 := by omega
       rw [htt] at HS HM
       clear htt
       go_wp2_with (first
        | ((with_reducible refine gate_dst (N := 27) rfl ?_); refine Kd.R_lit (Kd.int .i64) _ 3 ?hg (N := 27) ?hd (xs := ([(i : Int), (j : Int)] : List Int)) (inner := [.int .i64 (i : Int), .int .i64 (j : Int)]) (ok := fun _ => True) (okp := fun _ => True) ?hr ?hp (fun _ hk => hk) trivial (Below.refl _ _) (Nat.le_refl _) (by simp) ?_; (case hd => rfl); (case hg => rfl); (case hr => first | (go_simp; done) | (go_simp; rfl)); (case hp => exact (Reps.one (show Kd.M (Kd.int .i64) _ _ _ (i : Int) [.int .i64 (i : Int)] from rfl) (Reps.one (show Kd.M (Kd.int .i64) _ _ _ (j : Int) [.int .i64 (j : Int)] from rfl) (Reps.none _ _)))); intro v168 w23 ho24 hb hg_ hnew_; clear hg_ hnew_; have HO := Aside0.mk (Kd.R_lower ho24 (below_size HB.out)); have C1 := Aside0.mk (blk_below B1.out hb); have C2 := Aside0.mk (blk_below B2.out hb); have C3 := Aside0.mk (blk_below B3.out hb); have C4 := Aside0.mk (blk_below B4.out hb); have HB' := Aside0.mk (below_step HB.out hb); clear hb ho24; obtain ⟨Ao, co, eo⟩ := Kd.R_slice HO.out; subst eo)
        | ((with_reducible refine gate_calleev (t := 24) rfl ?_); refine goesV_ (caps := #[]) (some 28) rfl rfl Try.func61 (by kernel_rfl) rfl #[.slice Ao ([(i : Int), (j : Int)] : List Int).length co] rfl rfl (by (try simp only [List.map_toArray, List.map_cons, List.map_nil]); first | done | rfl | (simp only [List.length_drop, List.length_take]; rfl)) ?_; (with_reducible refine (logic_Or.calls 9 _ _ ([(i : Int), (j : Int)] : List Int) (tt : Int) _ ?side1 ?side2 HM.out).mono ?_); (case side1 => exact (Kd.R_reads' HO.out).2.2); (case side2 => exact (Kd.R_reads' HO.out).2.1); rintro e w26 ⟨rfl, hb⟩; refine ⟨_, rfl, ?_⟩; have D1 := Aside0.mk (blk_below C1.out hb); have D2 := Aside0.mk (blk_below C2.out hb); have D3 := Aside0.mk (blk_below C3.out hb); have D4 := Aside0.mk (blk_below C4.out hb); have HB2 := Aside0.mk (below_step HB'.out hb); have h4 := reject_both_at_logic_Or.sel_cell D4.out ht3; have f4 := blk_frozen D4.out tt; clear hb))
       go_roundg kj
       case measure => omega
       case rel => exact ⟨j + 1, by simp, ⟨by have := HJ.out; omega⟩, ⟨by exact blk_far D1.out N14.out _⟩, ⟨by exact blk_far D2.out N24.out _⟩, ⟨by exact blk_far D3.out N34.out _⟩, ⟨by rw [← Nat.add_assoc, ← HS.out]; exact blk_set D4.out _ _⟩, ⟨by exact below_set HB2.out G4.out⟩⟩
    ·obtain rfl : j = 3 := by have := HJ.out; omega
     go_wp2
     go_roundg ki
     case measure => omega
     case rel => exact ⟨i + 1, by simp, ⟨by have := HI.out; omega⟩, ⟨by exact B1.out⟩, ⟨by exact B2.out⟩, ⟨by exact B3.out⟩, ⟨by exact B4.out⟩, ⟨by exact HB.out⟩⟩
  ·obtain rfl : i = 3 := by have := HI.out; omega
   have e := HR.out
   simp only [Prod.mk.injEq] at e
   have h0 : wr.cell? ⟨g4, 0, none⟩ = some (.bool r1) := by rw [← e.1]; exact (blk_cell B4.out 0).trans rfl
   have h1 : wr.cell? ⟨g4, 1, none⟩ = some (.bool r2) := by rw [← e.2.1]; exact (blk_cell B4.out 1).trans rfl
   have h2 : wr.cell? ⟨g4, 2, none⟩ = some (.bool r3) := by rw [← e.2.2]; exact (blk_cell B4.out 2).trans rfl
   have q3 := blk_cell B3.out
   have f3 := blk_frozen B3.out
   clear e
   go_wp2
   refine bodyPost_ret (results_cell_row rfl _ _ g3 39 #[.bool r1, .bool r2, .bool r3] (0, 0) _ rfl (by refine blk_put (cs := #[.bool r1, .bool r2, .bool false]) ?_ 2 _ rfl; refine blk_put (cs := #[.bool r1, .bool false, .bool false]) ?_ 1 _ rfl; refine blk_put (cs := #[.bool false, .bool false, .bool false]) ?_ 0 _ rfl; exact B3.out) Try.underlying39 rfl (by kernel_rfl)) rfl ?_
   exact ⟨rfl, below_set (below_set (below_set HB.out G3.out) G3.out) G3.out⟩

/-! ### reject_both_at_logic_And: function 1000003 (by hand) -/
def reject_both_at_logic_And.m (i j : Nat) : Nat := min i j
theorem reject_both_at_logic_And.m_lt {i j : Nat} (hi : i < 3) (hj : j < 3) : reject_both_at_logic_And.m i j < 3 := by unfold reject_both_at_logic_And.m; omega
theorem reject_both_at_logic_And.m_f {i j : Nat} (hi : i < 3) (hj : j < 3) : logic_And.f 9 [(i : Int), (j : Int)] = some ((reject_both_at_logic_And.m i j : Nat) : Int) := by
 have h1 : i = 0 ∨ i = 1 ∨ i = 2 := by omega
 have h2 : j = 0 ∨ j = 1 ∨ j = 2 := by omega
 rcases h1 with rfl | rfl | rfl <;> rcases h2 with rfl | rfl | rfl <;> decide +kernel
def reject_both_at_logic_And.sel (x0 x1 x2 : Bool) (i : Nat) : Bool := if i = 0 then x0 else if i = 1 then x1 else x2
def reject_both_at_logic_And.out (a0 a1 a2 b0 b1 b2 : Bool) : Nat → Nat → Bool
 | 0, _ => false
 | n + 1, t => reject_both_at_logic_And.out a0 a1 a2 b0 b1 b2 n t || (reject_both_at_logic_And.sel a0 a1 a2 (n / 3) && reject_both_at_logic_And.sel b0 b1 b2 (n % 3) && decide (reject_both_at_logic_And.m (n / 3) (n % 3) = t))
def reject_both_at_logic_And.cs (a0 a1 a2 b0 b1 b2 : Bool) (n : Nat) : Array Value := #[.bool (reject_both_at_logic_And.out a0 a1 a2 b0 b1 b2 n 0), .bool (reject_both_at_logic_And.out a0 a1 a2 b0 b1 b2 n 1), .bool (reject_both_at_logic_And.out a0 a1 a2 b0 b1 b2 n 2)]
theorem reject_both_at_logic_And.cs_off {a0 a1 a2 b0 b1 b2 : Bool} {i j : Nat} (hj : j < 3) (h : (reject_both_at_logic_And.sel a0 a1 a2 i && reject_both_at_logic_And.sel b0 b1 b2 j) = false) : reject_both_at_logic_And.cs a0 a1 a2 b0 b1 b2 (3 * i + j + 1) = reject_both_at_logic_And.cs a0 a1 a2 b0 b1 b2 (3 * i + j) := by
 have e1 : (3 * i + j) / 3 = i := by omega
 have e2 : (3 * i + j) % 3 = j := by omega
 simp only [reject_both_at_logic_And.cs, reject_both_at_logic_And.out, e1, e2, h, Bool.false_and, Bool.or_false]
theorem reject_both_at_logic_And.cs_on {a0 a1 a2 b0 b1 b2 : Bool} {i j : Nat} (hi : i < 3) (hj : j < 3) (h : (reject_both_at_logic_And.sel a0 a1 a2 i && reject_both_at_logic_And.sel b0 b1 b2 j) = true) : (reject_both_at_logic_And.cs a0 a1 a2 b0 b1 b2 (3 * i + j)).setIfInBounds (reject_both_at_logic_And.m i j) (.bool true) = reject_both_at_logic_And.cs a0 a1 a2 b0 b1 b2 (3 * i + j + 1) := by
 have e1 : (3 * i + j) / 3 = i := by omega
 have e2 : (3 * i + j) % 3 = j := by omega
 have hm := reject_both_at_logic_And.m_lt hi hj
 have h3 : reject_both_at_logic_And.m i j = 0 ∨ reject_both_at_logic_And.m i j = 1 ∨ reject_both_at_logic_And.m i j = 2 := by omega
 rcases h3 with h3 | h3 | h3 <;> simp [reject_both_at_logic_And.cs, reject_both_at_logic_And.out, e1, e2, h, h3]
theorem reject_both_at_logic_And.sel_cell {w : World} {g : Nat} {x0 x1 x2 : Bool} (h : w.heap[g]? = some (.cells #[.bool x0, .bool x1, .bool x2] 39 (0, 0))) {i : Nat} (hi : i < 3) : w.cell? ⟨g, i, none⟩ = some (.bool (reject_both_at_logic_And.sel x0 x1 x2 i)) := by
 have h1 : i = 0 ∨ i = 1 ∨ i = 2 := by omega
 rcases h1 with rfl | rfl | rfl <;> exact (blk_cell h _).trans rfl
def reject_both_at_logic_And.f (k : Nat) (a0_0 a0_1 a0_2 a1_0 a1_1 a1_2 : Bool) : Option (Bool × Bool × Bool) := some (reject_both_at_logic_And.out a0_0 a0_1 a0_2 a1_0 a1_1 a1_2 9 0, reject_both_at_logic_And.out a0_0 a0_1 a0_2 a1_0 a1_1 a1_2 9 1, reject_both_at_logic_And.out a0_0 a0_1 a0_2 a1_0 a1_1 a1_2 9 2)
theorem reject_both_at_logic_And.mono : ∀ a0 a1 a2 a3 a4 a5 k, LeO (reject_both_at_logic_And.f k a0 a1 a2 a3 a4 a5) (reject_both_at_logic_And.f (k + 1) a0 a1 a2 a3 a4 a5) := fun _ _ _ _ _ _ _ => LeO.refl _
set_option maxHeartbeats 8000000 in
set_option maxRecDepth 100000 in
theorem reject_both_at_logic_And.calls (k : Nat) (a0_0 : Bool) (a0_1 : Bool) (a0_2 : Bool) (a1_0 : Bool) (a1_1 : Bool) (a1_2 : Bool) (r1 : Bool) (r2 : Bool) (r3 : Bool) (w : World) (h : reject_both_at_logic_And.f k a0_0 a0_1 a0_2 a1_0 a1_1 a1_2 = some (r1, r2, r3)) :
  Calls Try.prog 62 #[.agg #[.bool a0_0, .bool a0_1, .bool a0_2], .agg #[.bool a1_0, .bool a1_1, .bool a1_2], .func (.func 60) #[] #[]] w fun e w' => e = .returned (.agg #[.bool r1, .bool r2, .bool r3]) ∧ Below w.heap.size w w' := by
 have HR := Aside0.mk (Option.some.inj h)
 clear h
 have hu39 := Try.underlying39
 have HB := Aside0.mk (Below.refl w.heap.size w)
 go_enter Try.func62, Try.ntmps62
 go_wp2_with (first
  | ((with_reducible refine gate_dst (N := 3) rfl ?_); refine box_event ?hg (N := 3) ?hd (cs := #[.bool a0_0, .bool a0_1, .bool a0_2]) (t := 39) ?hr ?_; (case hd => rfl); (case hg => rfl); (case hr => first | (go_simp; done) | (go_simp; rfl)); intro g1 hg w4 hbox hb; have B1 := Aside0.mk hbox; have G1 := Aside0.mk (show w.heap.size ≤ g1 by rw [hg]; exact below_size HB.out); have HB' := Aside0.mk (below_step HB.out hb); clear HB; have HB := HB'; clear HB' hb hbox hg)
  | ((with_reducible refine gate_dst (N := 4) rfl ?_); refine box_event ?hg (N := 4) ?hd (cs := #[.bool a1_0, .bool a1_1, .bool a1_2]) (t := 39) ?hr ?_; (case hd => rfl); (case hg => rfl); (case hr => first | (go_simp; done) | (go_simp; rfl)); intro g2 hg w5 hbox hb; have N12 := Aside0.mk (show g1 ≠ g2 by rw [hg]; exact Nat.ne_of_lt (blk_lt B1.out)); have B1' := Aside0.mk (blk_below B1.out hb); clear B1; have B1 := B1'; clear B1'; have B2 := Aside0.mk hbox; have HB' := Aside0.mk (below_step HB.out hb); clear HB; have HB := HB'; clear HB' hb hbox hg)
  | ((with_reducible refine gate_dst (N := 6) rfl ?_); refine box_event ?hg (N := 6) ?hd (cs := #[.bool false, .bool false, .bool false]) (t := 39) ?hr ?_; (case hd => rfl); (case hg => rfl); (case hr => first | (go_simp; done) | (go_simp; rfl)); intro g3 hg w6 hbox hb; have N13 := Aside0.mk (show g1 ≠ g3 by rw [hg]; exact Nat.ne_of_lt (blk_lt B1.out)); have N23 := Aside0.mk (show g2 ≠ g3 by rw [hg]; exact Nat.ne_of_lt (blk_lt B2.out)); have G3 := Aside0.mk (show w.heap.size ≤ g3 by rw [hg]; exact below_size HB.out); have B1' := Aside0.mk (blk_below B1.out hb); clear B1; have B1 := B1'; clear B1'; have B2' := Aside0.mk (blk_below B2.out hb); clear B2; have B2 := B2'; clear B2'; have B3 := Aside0.mk hbox; have HB' := Aside0.mk (below_step HB.out hb); clear HB; have HB := HB'; clear HB' hb hbox hg)
  | ((with_reducible refine gate_dst (N := 7) rfl ?_); refine box_event ?hg (N := 7) ?hd (cs := #[.bool false, .bool false, .bool false]) (t := 39) ?hr ?_; (case hd => rfl); (case hg => rfl); (case hr => first | (go_simp; done) | (go_simp; rfl)); intro g4 hg w7 hbox hb; have N14 := Aside0.mk (show g1 ≠ g4 by rw [hg]; exact Nat.ne_of_lt (blk_lt B1.out)); have N24 := Aside0.mk (show g2 ≠ g4 by rw [hg]; exact Nat.ne_of_lt (blk_lt B2.out)); have N34 := Aside0.mk (show g3 ≠ g4 by rw [hg]; exact Nat.ne_of_lt (blk_lt B3.out)); have G4 := Aside0.mk (show w.heap.size ≤ g4 by rw [hg]; exact below_size HB.out); have B1' := Aside0.mk (blk_below B1.out hb); clear B1; have B1 := B1'; clear B1'; have B2' := Aside0.mk (blk_below B2.out hb); clear B2; have B2 := B2'; clear B2'; have B3' := Aside0.mk (blk_below B3.out hb); clear B3; have B3 := B3'; clear B3'; have B4 := Aside0.mk hbox; have HB' := Aside0.mk (below_step HB.out hb); clear HB; have HB := HB'; clear HB' hb hbox hg))
 go_loopg [10] 3 (fun kq v10 w' => ∃ i : Nat, v10 = .int .i64 (i : Int) ∧ Aside0 (kq + i = 3) ∧ Aside0 (w'.heap[g1]? = some (.cells #[.bool a0_0, .bool a0_1, .bool a0_2] 39 (0, 0))) ∧ Aside0 (w'.heap[g2]? = some (.cells #[.bool a1_0, .bool a1_1, .bool a1_2] 39 (0, 0))) ∧ Aside0 (w'.heap[g3]? = some (.cells #[.bool false, .bool false, .bool false] 39 (0, 0))) ∧ Aside0 (w'.heap[g4]? = some (.cells (reject_both_at_logic_And.cs a0_0 a0_1 a0_2 a1_0 a1_1 a1_2 (3 * i)) 39 (0, 0))) ∧ Aside0 (Below w.heap.size w w'))
 case atStart => exact ⟨0, rfl, ⟨rfl⟩, ⟨by exact B1.out⟩, ⟨by exact B2.out⟩, ⟨by exact B3.out⟩, ⟨by exact B4.out⟩, ⟨by exact HB.out⟩⟩
 case round =>
  clear B1 B2 B3 B4 HB
  obtain ⟨i, rfl, HI, B1, B2, B3, B4, HB⟩ := hrel
  by_cases hi : i < 3
  ·cases gk with
   | zero => exact absurd HI.out (by omega)
   | succ ki =>
   have ci : decide ((i : Int) < 3) = true := by simp; omega
   go_wp2
   go_loopg [13] 3 (fun kq v13 w' => ∃ j : Nat, v13 = .int .i64 (j : Int) ∧ Aside0 (kq + j = 3) ∧ Aside0 (w'.heap[g1]? = some (.cells #[.bool a0_0, .bool a0_1, .bool a0_2] 39 (0, 0))) ∧ Aside0 (w'.heap[g2]? = some (.cells #[.bool a1_0, .bool a1_1, .bool a1_2] 39 (0, 0))) ∧ Aside0 (w'.heap[g3]? = some (.cells #[.bool false, .bool false, .bool false] 39 (0, 0))) ∧ Aside0 (w'.heap[g4]? = some (.cells (reject_both_at_logic_And.cs a0_0 a0_1 a0_2 a1_0 a1_1 a1_2 (3 * i + j)) 39 (0, 0))) ∧ Aside0 (Below w.heap.size w w'))
   case atStart => exact ⟨0, rfl, ⟨rfl⟩, ⟨by exact B1.out⟩, ⟨by exact B2.out⟩, ⟨by exact B3.out⟩, ⟨by exact B4.out⟩, ⟨by exact HB.out⟩⟩
   case round =>
    clear B1 B2 B3 B4 HB
    obtain ⟨j, rfl, HJ, B1, B2, B3, B4, HB⟩ := hrel
    obtain ⟨kj, rfl⟩ : ∃ q, q = gk := ⟨_, rfl⟩
    by_cases hj : j < 3
    ·have cj : decide ((j : Int) < 3) = true := by simp; omega
     have wi : IntKind.i64.wrap ((i : Int) + 1) = ((i + 1 : Nat) : Int) := by rw [IntKind.wrap_i64]; omega
     have wj : IntKind.i64.wrap ((j : Int) + 1) = ((j + 1 : Nat) : Int) := by rw [IntKind.wrap_i64]; omega
     have hA := reject_both_at_logic_And.sel_cell B1.out hi
     have hB := reject_both_at_logic_And.sel_cell B2.out hj
     have li : (i : Int) < 3 := by omega
     have lj : (j : Int) < 3 := by omega
     have fA := blk_frozen B1.out i
     have fB := blk_frozen B2.out j
     obtain ⟨x, hx⟩ : ∃ x, reject_both_at_logic_And.sel a0_0 a0_1 a0_2 i = x := ⟨_, rfl⟩
     obtain ⟨y, hy⟩ : ∃ y, reject_both_at_logic_And.sel a1_0 a1_1 a1_2 j = y := ⟨_, rfl⟩
     rw [hx] at hA
     rw [hy] at hB
     have HX := Aside0.mk hx
     have HY := Aside0.mk hy
     clear hx hy
     cases kj with
     | zero => exact absurd HJ.out (by omega)
     | succ kj =>
     cases x with
     | false =>
      go_wp2
      go_roundg kj
      case measure => omega
      case rel => exact ⟨j + 1, by simp, ⟨by have := HJ.out; omega⟩, ⟨by exact B1.out⟩, ⟨by exact B2.out⟩, ⟨by exact B3.out⟩, ⟨by rw [← Nat.add_assoc, reject_both_at_logic_And.cs_off hj (by rw [HX.out]; rfl)]; exact B4.out⟩, ⟨by exact HB.out⟩⟩
     | true =>
      cases y with
      | false =>
       go_wp2
       go_roundg kj
       case measure => omega
       case rel => exact ⟨j + 1, by simp, ⟨by have := HJ.out; omega⟩, ⟨by exact B1.out⟩, ⟨by exact B2.out⟩, ⟨by exact B3.out⟩, ⟨by rw [← Nat.add_assoc, reject_both_at_logic_And.cs_off hj (by rw [HX.out, HY.out]; rfl)]; exact B4.out⟩, ⟨by exact HB.out⟩⟩
      | true =>
       have HS := Aside0.mk (reject_both_at_logic_And.cs_on (a0 := a0_0) (a1 := a0_1) (a2 := a0_2) (b0 := a1_0) (b1 := a1_1) (b2 := a1_2) hi hj (by rw [HX.out, HY.out]; rfl))
       have HM := Aside0.mk (reject_both_at_logic_And.m_f hi hj)
       obtain ⟨tt, htt⟩ : ∃ tt, reject_both_at_logic_And.m i j = tt := ⟨_, rfl⟩
       have ht3 : tt < 3 := by rw [← htt]; exact reject_both_at_logic_And.m_lt hi hj
       have lt3 : (tt : Int) < 3 := by omega
       rw [htt] at HS HM
       clear htt
       go_wp2_with (first
        | ((with_reducible refine gate_dst (N := 27) rfl ?_); refine Kd.R_lit (Kd.int .i64) _ 3 ?hg (N := 27) ?hd (xs := ([(i : Int), (j : Int)] : List Int)) (inner := [.int .i64 (i : Int), .int .i64 (j : Int)]) (ok := fun _ => True) (okp := fun _ => True) ?hr ?hp (fun _ hk => hk) trivial (Below.refl _ _) (Nat.le_refl _) (by simp) ?_; (case hd => rfl); (case hg => rfl); (case hr => first | (go_simp; done) | (go_simp; rfl)); (case hp => exact (Reps.one (show Kd.M (Kd.int .i64) _ _ _ (i : Int) [.int .i64 (i : Int)] from rfl) (Reps.one (show Kd.M (Kd.int .i64) _ _ _ (j : Int) [.int .i64 (j : Int)] from rfl) (Reps.none _ _)))); intro v168 w23 ho24 hb hg_ hnew_; clear hg_ hnew_; have HO := Aside0.mk (Kd.R_lower ho24 (below_size HB.out)); have C1 := Aside0.mk (blk_below B1.out hb); have C2 := Aside0.mk (blk_below B2.out hb); have C3 := Aside0.mk (blk_below B3.out hb); have C4 := Aside0.mk (blk_below B4.out hb); have HB' := Aside0.mk (below_step HB.out hb); clear hb ho24; obtain ⟨Ao, co, eo⟩ := Kd.R_slice HO.out; subst eo)
        | ((with_reducible refine gate_calleev (t := 24) rfl ?_); refine goesV_ (caps := #[]) (some 28) rfl rfl Try.func60 (by kernel_rfl) rfl #[.slice Ao ([(i : Int), (j : Int)] : List Int).length co] rfl rfl (by (try simp only [List.map_toArray, List.map_cons, List.map_nil]); first | done | rfl | (simp only [List.length_drop, List.length_take]; rfl)) ?_; (with_reducible refine (logic_And.calls 9 _ _ ([(i : Int), (j : Int)] : List Int) (tt : Int) _ ?side1 ?side2 HM.out).mono ?_); (case side1 => exact (Kd.R_reads' HO.out).2.2); (case side2 => exact (Kd.R_reads' HO.out).2.1); rintro e w26 ⟨rfl, hb⟩; refine ⟨_, rfl, ?_⟩; have D1 := Aside0.mk (blk_below C1.out hb); have D2 := Aside0.mk (blk_below C2.out hb); have D3 := Aside0.mk (blk_below C3.out hb); have D4 := Aside0.mk (blk_below C4.out hb); have HB2 := Aside0.mk (below_step HB'.out hb); have h4 := reject_both_at_logic_And.sel_cell D4.out ht3; have f4 := blk_frozen D4.out tt; clear hb))
       go_roundg kj
       case measure => omega
       case rel => exact ⟨j + 1, by simp, ⟨by have := HJ.out; omega⟩, ⟨by exact blk_far D1.out N14.out _⟩, ⟨by exact blk_far D2.out N24.out _⟩, ⟨by exact blk_far D3.out N34.out _⟩, ⟨by rw [← Nat.add_assoc, ← HS.out]; exact blk_set D4.out _ _⟩, ⟨by exact below_set HB2.out G4.out⟩⟩
    ·obtain rfl : j = 3 := by have := HJ.out; omega
     go_wp2
     go_roundg ki
     case measure => omega
     case rel => exact ⟨i + 1, by simp, ⟨by have := HI.out; omega⟩, ⟨by exact B1.out⟩, ⟨by exact B2.out⟩, ⟨by exact B3.out⟩, ⟨by exact B4.out⟩, ⟨by exact HB.out⟩⟩
  ·obtain rfl : i = 3 := by have := HI.out; omega
   have e := HR.out
   simp only [Prod.mk.injEq] at e
   have h0 : wr.cell? ⟨g4, 0, none⟩ = some (.bool r1) := by rw [← e.1]; exact (blk_cell B4.out 0).trans rfl
   have h1 : wr.cell? ⟨g4, 1, none⟩ = some (.bool r2) := by rw [← e.2.1]; exact (blk_cell B4.out 1).trans rfl
   have h2 : wr.cell? ⟨g4, 2, none⟩ = some (.bool r3) := by rw [← e.2.2]; exact (blk_cell B4.out 2).trans rfl
   have q3 := blk_cell B3.out
   have f3 := blk_frozen B3.out
   clear e
   go_wp2
   refine bodyPost_ret (results_cell_row rfl _ _ g3 39 #[.bool r1, .bool r2, .bool r3] (0, 0) _ rfl (by refine blk_put (cs := #[.bool r1, .bool r2, .bool false]) ?_ 2 _ rfl; refine blk_put (cs := #[.bool r1, .bool false, .bool false]) ?_ 1 _ rfl; refine blk_put (cs := #[.bool false, .bool false, .bool false]) ?_ 0 _ rfl; exact B3.out) Try.underlying39 rfl (by kernel_rfl)) rfl ?_
   exact ⟨rfl, below_set (below_set (below_set HB.out G3.out) G3.out) G3.out⟩

end Go.Proofs.Ytigkkfhpnfjmhaa.PRejM
