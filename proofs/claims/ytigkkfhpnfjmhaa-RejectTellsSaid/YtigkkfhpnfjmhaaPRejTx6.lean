/- Laid by a program of this session over the printer of the kit: contracts of functions of the given program, and rows of laws. Lean checks it. -/
import Derived.Test.YtigkkfhpnfjmhaaPRejTx0
import Derived.Test.YtigkkfhpnfjmhaaPRejTx5
namespace Go.Proofs.Ytigkkfhpnfjmhaa.PRejT
open Go.RowKit Go.Proofs.YtigkkfhpnfjmhaaW.PrintWords Go.Proofs.YtigkkfhpnfjmhaaW.PrintLast Go.Proofs.YtigkkfhpnfjmhaaW.PrintMore
attribute [local go_sem] max2_int min2_int max_two min_two max_three min_three max_four min_four   -- for this text's walks alone
set_option linter.unusedVariables false
set_option linter.unusedSimpArgs false

/-! ### watersmeetref03_Compare: function 64 -/
def watersmeetref03_Compare.j0 : Nat → Int → Bool → Bool → Int → Bool → Int → Option (Int)
 | 0, _, _, _, _, _, _ => none
 | k + 1, x0, x12, x357000, x357001, x358000, x358001 => if x12 = true then (some 1) else (if x0 = 1 then ((watersmeetref03_truth.f (x357001 == x358001)).bind fun t358 => (some t358)) else (if x0 = 2 then ((watersmeetref03_truth.f (x357001 != x358001)).bind fun t359 => (some t359)) else (if x0 = 3 then ((watersmeetref03_truth.f (decide (x357001 < x358001))).bind fun t360 => (some t360)) else (if x0 = 4 then ((watersmeetref03_truth.f (decide (x357001 ≤ x358001))).bind fun t361 => (some t361)) else (if x0 = 5 then ((watersmeetref03_truth.f (decide (x357001 > x358001))).bind fun t362 => (some t362)) else (if x0 = 6 then ((watersmeetref03_truth.f (decide (x357001 ≥ x358001))).bind fun t363 => (some t363)) else (some 1)))))))
def watersmeetref03_Compare.f (k : Nat) (a0 : Int) (a1_0 : Bool) (a1_1 : Int) (a2_0 : Bool) (a2_1 : Int) : Option (Int) := if a1_0 = true then (watersmeetref03_Compare.j0 k a0 true a1_0 a1_1 a2_0 a2_1) else (watersmeetref03_Compare.j0 k a0 a2_0 a1_0 a1_1 a2_0 a2_1)
theorem watersmeetref03_Compare.mono_l : ∀ k, (∀ y0 y1 y2 y3 y4 y5, LeO (watersmeetref03_Compare.j0 k y0 y1 y2 y3 y4 y5) (watersmeetref03_Compare.j0 (k + 1) y0 y1 y2 y3 y4 y5))
 | 0 => fun _ _ _ _ _ _ r h => by simp [watersmeetref03_Compare.j0] at h
 | k + 1 => by
  have ih0 := watersmeetref03_Compare.mono_l k
  ·intro y0 y1 y2 y3 y4 y5
   unfold watersmeetref03_Compare.j0
   repeat' first
   | (with_reducible exact ih0 _ _ _ _ _ _)
   | (with_reducible exact LeO.refl _)
   | (with_reducible exact LeO.none _)
   | (with_reducible refine LeO.ite ?_ ?_)
   | (with_reducible refine LeO.bind ?_ (fun _ => ?_))
   | exact ih0 _ _ _ _ _ _
   | exact LeO.none _
   | refine LeO.ite ?_ ?_
   | refine LeO.bind ?_ (fun _ => ?_)
theorem watersmeetref03_Compare.mono : ∀ a0 a1 a2 a3 a4 k, LeO (watersmeetref03_Compare.f k a0 a1 a2 a3 a4) (watersmeetref03_Compare.f (k + 1) a0 a1 a2 a3 a4) := by
 intro a0 a1 a2 a3 a4 k
 have ih0 := watersmeetref03_Compare.mono_l k
 unfold watersmeetref03_Compare.f
 repeat' first
   | (with_reducible exact ih0 _ _ _ _ _ _)
   | (with_reducible exact LeO.refl _)
   | (with_reducible exact LeO.none _)
   | (with_reducible refine LeO.ite ?_ ?_)
   | (with_reducible refine LeO.bind ?_ (fun _ => ?_))
   | exact ih0 _ _ _ _ _ _
   | exact LeO.none _
   | refine LeO.ite ?_ ?_
   | refine LeO.bind ?_ (fun _ => ?_)
set_option maxHeartbeats 8000000 in
set_option maxRecDepth 100000 in
theorem watersmeetref03_Compare.calls (k : Nat) (a0 : Int) (a1_0 : Bool) (a1_1 : Int) (a2_0 : Bool) (a2_1 : Int) (r : Int) (w : World) (h : watersmeetref03_Compare.f k a0 a1_0 a1_1 a2_0 a2_1 = some r) :
  Calls Try.prog 64 #[.int .i64 a0, .agg #[.bool a1_0, .int .i64 a1_1], .agg #[.bool a2_0, .int .i64 a2_1]] w fun e w' => e = .returned (.int .i64 r) ∧ Below w.heap.size w w' := by
 have hu42 := Try.underlying42
 have HB := Aside0.mk (Below.refl w.heap.size w)
 have H : (if a1_0 = true then (watersmeetref03_Compare.j0 k a0 true a1_0 a1_1 a2_0 a2_1) else (watersmeetref03_Compare.j0 k a0 a2_0 a1_0 a1_1 a2_0 a2_1)) = some r := h
 clear h
 have HC4 := Aside0.mk H
 clear H
 go_enter Try.func64, Try.ntmps64
 go_upto_region 1 with (first | ((with_reducible refine gate_dst (N := 4) rfl ?_); refine box_event ?hg (N := 4) ?hd (cs := #[.bool a1_0, .int .i64 a1_1]) (t := 42) ?hr ?_; (case hd => rfl); (case hg => rfl); (case hr => first | (go_simp; done) | (go_simp; rfl)); intro gb356 hg w5 hbox hb; have n0_ := Aside0.mk (below_step (by repeat (first | (with_reducible first | exact HB.out | apply below_alloc | apply pw_below_drewN | apply below_drew1) | exact HB.out)) hb); have n1_ := Aside0.mk (hbox); have n2_ := Aside0.mk ((by rw [hg]; exact (below_size (by repeat (first | (with_reducible first | exact HB.out | apply below_alloc | apply pw_below_drewN | apply below_drew1) | exact HB.out))) : w.heap.size ≤ gb356)); have n3_ := n2_; clear HB; have HB := n0_; have BK356 := n1_; have GW356 := n2_; have GE356 := n3_; clear n0_ n1_ n2_ n3_; clear hb hbox hg) | ((with_reducible refine gate_dst (N := 5) rfl ?_); refine box_event ?hg (N := 5) ?hd (cs := #[.bool a2_0, .int .i64 a2_1]) (t := 42) ?hr ?_; (case hd => rfl); (case hg => rfl); (case hr => first | (go_simp; done) | (go_simp; rfl)); intro gb357 hg w6 hbox hb; have n0_ := Aside0.mk (blk_below (by (with_reducible repeat (first | refine blk_drewN ?_ _ | refine blk_drew ?_ | refine blk_alloc ?_ _)); exact BK356.out) hb); have n1_ := Aside0.mk (below_step (by repeat (first | (with_reducible first | exact HB.out | apply below_alloc | apply pw_below_drewN | apply below_drew1 | refine below_set ?_ GE356.out) | exact HB.out)) hb); have n2_ := Aside0.mk (hbox); have n3_ := Aside0.mk ((by rw [hg]; exact (below_size (by repeat (first | (with_reducible first | exact HB.out | apply below_alloc | apply pw_below_drewN | apply below_drew1 | refine below_set ?_ GE356.out) | exact HB.out))) : w.heap.size ≤ gb357)); have n4_ := n3_; have n5_ := Aside0.mk ((by rw [hg]; exact Nat.ne_of_lt (blk_lt (by (with_reducible repeat (first | refine blk_drewN ?_ _ | refine blk_drew ?_ | refine blk_alloc ?_ _)); exact BK356.out)) : gb356 ≠ gb357)); have n6_ := Aside0.mk ((by rw [hg]; exact Nat.ne_of_gt (blk_lt (by (with_reducible repeat (first | refine blk_drewN ?_ _ | refine blk_drew ?_ | refine blk_alloc ?_ _)); exact BK356.out)) : gb357 ≠ gb356)); clear BK356; clear HB; have BK356 := n0_; have HB := n1_; have BK357 := n2_; have GW357 := n3_; have GE357 := n4_; have NB356_357 := n5_; have NB357_356 := n6_; clear n0_ n1_ n2_ n3_ n4_ n5_ n6_; clear hb hbox hg))
 (try simp only [Act.put, List.setIfInBounds_toArray, List.set_cons_zero, List.set_cons_succ])
 go_cut [12] (fun v12 wc => ∃ (kq : Nat) (x12_3 : Bool), v12 = .bool x12_3 ∧ Aside0 (watersmeetref03_Compare.j0 kq a0 x12_3 a1_0 a1_1 a2_0 a2_1 = some r) ∧ Aside0 (kq ≤ k) ∧ Aside0 (wc.heap[gb356]? = some (.cells #[.bool a1_0, .int .i64 a1_1] 42 (0, 0))) ∧ Aside0 (wc.heap[gb357]? = some (.cells #[.bool a2_0, .int .i64 a2_1] 42 (0, 0))) ∧ Aside0 (Below w.heap.size w wc))
 case first =>
  have H := HC4.out
  clear HC4
  by_cases c7 : a1_0 = true
  ·subst c7
   have H1 : (watersmeetref03_Compare.j0 k a0 true true a1_1 a2_0 a2_1) = some r := by rw [if_pos rfl] at H; exact H
   clear H
   have H := H1
   clear H1
   have H' := Aside0.mk H
   clear H
   have hnb8 := NB356_357.out
   have hnc8 := NB357_356.out
   have hcz9_0 : w6.cell? ⟨gb356, 0, none⟩ = some (.bool true) := (blk_cell BK356.out 0).trans rfl
   have hcz9_1 : w6.cell? ⟨gb356, 1, none⟩ = some (.int .i64 a1_1) := (blk_cell BK356.out 1).trans rfl
   have hfz9_0 := blk_frozen BK356.out 0
   have hfz9_1 := blk_frozen BK356.out 1
   go_wp2
   go_meet
   case rel => exact ⟨_, (true), (by first | rfl | (simp; done) | (simp [*]; done) | (simp; decide)), H', ⟨by first | omega | exact Nat.le_refl _⟩, ⟨by (with_reducible repeat (first | refine blk_drewN ?_ _ | refine blk_drew ?_ | refine blk_alloc ?_ _)); exact BK356.out⟩, ⟨by (with_reducible repeat (first | refine blk_drewN ?_ _ | refine blk_drew ?_ | refine blk_alloc ?_ _)); exact BK357.out⟩, ⟨by repeat (first | (with_reducible first | exact HB.out | apply below_alloc | apply pw_below_drewN | apply below_drew1 | refine below_set ?_ GE356.out | refine below_set ?_ GE357.out) | exact HB.out)⟩⟩
  ·replace c7 := Bool.eq_false_iff.mpr c7
   subst c7
   have H1 : (watersmeetref03_Compare.j0 k a0 a2_0 false a1_1 a2_0 a2_1) = some r := by rw [if_neg (show ¬ (false = true) by decide)] at H; exact H
   clear H
   have H := H1
   clear H1
   have H' := Aside0.mk H
   clear H
   have hnb10 := NB356_357.out
   have hnc10 := NB357_356.out
   have hcz11_0 : w6.cell? ⟨gb356, 0, none⟩ = some (.bool false) := (blk_cell BK356.out 0).trans rfl
   have hcz11_1 : w6.cell? ⟨gb356, 1, none⟩ = some (.int .i64 a1_1) := (blk_cell BK356.out 1).trans rfl
   have hfz11_0 := blk_frozen BK356.out 0
   have hfz11_1 := blk_frozen BK356.out 1
   have hcz12_0 : w6.cell? ⟨gb357, 0, none⟩ = some (.bool a2_0) := (blk_cell BK357.out 0).trans rfl
   have hcz12_1 : w6.cell? ⟨gb357, 1, none⟩ = some (.int .i64 a2_1) := (blk_cell BK357.out 1).trans rfl
   have hfz12_0 := blk_frozen BK357.out 0
   have hfz12_1 := blk_frozen BK357.out 1
   go_wp2
   go_meet
   case rel => exact ⟨_, (a2_0), (by first | rfl | (simp; done) | (simp [*]; done) | (simp; decide)), H', ⟨by first | omega | exact Nat.le_refl _⟩, ⟨by (with_reducible repeat (first | refine blk_drewN ?_ _ | refine blk_drew ?_ | refine blk_alloc ?_ _)); exact BK356.out⟩, ⟨by (with_reducible repeat (first | refine blk_drewN ?_ _ | refine blk_drew ?_ | refine blk_alloc ?_ _)); exact BK357.out⟩, ⟨by repeat (first | (with_reducible first | exact HB.out | apply below_alloc | apply pw_below_drewN | apply below_drew1 | refine below_set ?_ GE356.out | refine below_set ?_ GE357.out) | exact HB.out)⟩⟩
 case rest =>
  clear HC4
  try clear c1
  try clear p2
  try clear c6
  try clear c7
  try clear c8
  try clear c10
  try clear hcz11_0
  try clear hcz11_1
  try clear hcz12_0
  try clear hcz12_1
  try clear hcz9_0
  try clear hcz9_1
  try clear hfz11_0
  try clear hfz11_1
  try clear hfz12_0
  try clear hfz12_1
  try clear hfz9_0
  try clear hfz9_1
  obtain ⟨kq, x12_3, rfl, HA, HJ3, BK356, BK357, HB⟩ := hcut
  cases kq with
  | zero => exact absurd HA.out (by simp [watersmeetref03_Compare.j0])
  | succ kj3 =>
   have H := HA.out
   clear HA
   simp only [watersmeetref03_Compare.j0] at H
   by_cases c13 : x12_3 = true
   ·subst c13
    have H1 : (some 1) = some r := by rw [if_pos rfl] at H; exact H
    clear H
    have H := H1
    clear H1
    obtain rfl := Option.some.inj H
    go_wp2
    go_ret
    exact ⟨by first | rfl | (simp [errW_none, errW_some] <;> rfl) | (simp [*, errW_none, errW_some] <;> rfl), by repeat (first | (with_reducible first | exact HB.out | apply below_alloc | apply pw_below_drewN | apply below_drew1 | refine below_set ?_ GE356.out | refine below_set ?_ GE357.out) | exact HB.out)⟩
   ·replace c13 := Bool.eq_false_iff.mpr c13
    subst c13
    have H1 : (if a0 = 1 then ((watersmeetref03_truth.f (a1_1 == a2_1)).bind fun t358 => (some t358)) else (if a0 = 2 then ((watersmeetref03_truth.f (a1_1 != a2_1)).bind fun t359 => (some t359)) else (if a0 = 3 then ((watersmeetref03_truth.f (decide (a1_1 < a2_1))).bind fun t360 => (some t360)) else (if a0 = 4 then ((watersmeetref03_truth.f (decide (a1_1 ≤ a2_1))).bind fun t361 => (some t361)) else (if a0 = 5 then ((watersmeetref03_truth.f (decide (a1_1 > a2_1))).bind fun t362 => (some t362)) else (if a0 = 6 then ((watersmeetref03_truth.f (decide (a1_1 ≥ a2_1))).bind fun t363 => (some t363)) else (some 1))))))) = some r := by rw [if_neg (show ¬ (false = true) by decide)] at H; exact H
    clear H
    have H := H1
    clear H1
    by_cases c14 : a0 = 1
    ·rw [if_pos c14] at H
     have c14b0 : (a0 == 1) = true := beq_iff_eq.mpr c14
     have c14b1 : (a0 != 1) = false := bne_eq_false_iff_eq.mpr c14
     clear c14
     replace H := Option.bind_eq_some_iff.mp H
     obtain ⟨t358, A150, H⟩ := H
     replace H : (some t358) = some r := H
     have A15 := Aside0.mk A150
     clear A150
     obtain rfl := Option.some.inj H
     have hnb16 := NB356_357.out
     have hnc16 := NB357_356.out
     have hcz17_0 : wc.cell? ⟨gb356, 0, none⟩ = some (.bool a1_0) := (blk_cell BK356.out 0).trans rfl
     have hcz17_1 : wc.cell? ⟨gb356, 1, none⟩ = some (.int .i64 a1_1) := (blk_cell BK356.out 1).trans rfl
     have hfz17_0 := blk_frozen BK356.out 0
     have hfz17_1 := blk_frozen BK356.out 1
     have hcz18_0 : wc.cell? ⟨gb357, 0, none⟩ = some (.bool a2_0) := (blk_cell BK357.out 0).trans rfl
     have hcz18_1 : wc.cell? ⟨gb357, 1, none⟩ = some (.int .i64 a2_1) := (blk_cell BK357.out 1).trans rfl
     have hfz18_0 := blk_frozen BK357.out 0
     have hfz18_1 := blk_frozen BK357.out 1
     go_wp2_with (first | ((with_reducible refine gate_callee (f := 92) rfl ?_); refine goesL_ (some 21) rfl rfl Try.func92 (by kernel_rfl) rfl #[.bool (a1_1 == a2_1)] rfl (by (try simp only [List.map_toArray, List.map_cons, List.map_nil]); first | done | rfl | (simp only [List.length_drop, List.length_take]; rfl)) ?_; (with_reducible refine (watersmeetref03_truth.calls (a1_1 == a2_1) t358 _ A15.out).mono ?_); rintro e w' ⟨rfl, ⟨nd, rfl⟩⟩; refine ⟨_, rfl, ?_⟩))
     go_ret
     exact ⟨by first | rfl | (simp [errW_none, errW_some] <;> rfl) | (simp [*, errW_none, errW_some] <;> rfl), by repeat (first | (with_reducible first | exact HB.out | apply below_alloc | apply pw_below_drewN | apply below_drew1 | refine below_set ?_ GE356.out | refine below_set ?_ GE357.out) | exact HB.out)⟩
    ·rw [if_neg c14] at H
     have c14b0 : (a0 == 1) = false := beq_eq_false_iff_ne.mpr c14
     have c14b1 : (a0 != 1) = true := bne_iff_ne.mpr c14
     by_cases c19 : a0 = 2
     ·rw [if_pos c19] at H
      have c19b0 : (a0 == 2) = true := beq_iff_eq.mpr c19
      have c19b1 : (a0 != 2) = false := bne_eq_false_iff_eq.mpr c19
      clear c19
      replace H := Option.bind_eq_some_iff.mp H
      obtain ⟨t359, A200, H⟩ := H
      replace H : (some t359) = some r := H
      have A20 := Aside0.mk A200
      clear A200
      obtain rfl := Option.some.inj H
      have hnb21 := NB356_357.out
      have hnc21 := NB357_356.out
      have hcz22_0 : wc.cell? ⟨gb356, 0, none⟩ = some (.bool a1_0) := (blk_cell BK356.out 0).trans rfl
      have hcz22_1 : wc.cell? ⟨gb356, 1, none⟩ = some (.int .i64 a1_1) := (blk_cell BK356.out 1).trans rfl
      have hfz22_0 := blk_frozen BK356.out 0
      have hfz22_1 := blk_frozen BK356.out 1
      have hcz23_0 : wc.cell? ⟨gb357, 0, none⟩ = some (.bool a2_0) := (blk_cell BK357.out 0).trans rfl
      have hcz23_1 : wc.cell? ⟨gb357, 1, none⟩ = some (.int .i64 a2_1) := (blk_cell BK357.out 1).trans rfl
      have hfz23_0 := blk_frozen BK357.out 0
      have hfz23_1 := blk_frozen BK357.out 1
      go_wp2_with (first | ((with_reducible refine gate_callee (f := 92) rfl ?_); refine goesL_ (some 29) rfl rfl Try.func92 (by kernel_rfl) rfl #[.bool (a1_1 != a2_1)] rfl (by (try simp only [List.map_toArray, List.map_cons, List.map_nil]); first | done | rfl | (simp only [List.length_drop, List.length_take]; rfl)) ?_; (with_reducible refine (watersmeetref03_truth.calls (a1_1 != a2_1) t359 _ A20.out).mono ?_); rintro e w' ⟨rfl, ⟨nd, rfl⟩⟩; refine ⟨_, rfl, ?_⟩))
      go_ret
      exact ⟨by first | rfl | (simp [errW_none, errW_some] <;> rfl) | (simp [*, errW_none, errW_some] <;> rfl), by repeat (first | (with_reducible first | exact HB.out | apply below_alloc | apply pw_below_drewN | apply below_drew1 | refine below_set ?_ GE356.out | refine below_set ?_ GE357.out) | exact HB.out)⟩
     ·rw [if_neg c19] at H
      have c19b0 : (a0 == 2) = false := beq_eq_false_iff_ne.mpr c19
      have c19b1 : (a0 != 2) = true := bne_iff_ne.mpr c19
      by_cases c24 : a0 = 3
      ·rw [if_pos c24] at H
       have c24b0 : (a0 == 3) = true := beq_iff_eq.mpr c24
       have c24b1 : (a0 != 3) = false := bne_eq_false_iff_eq.mpr c24
       clear c24
       replace H := Option.bind_eq_some_iff.mp H
       obtain ⟨t360, A250, H⟩ := H
       replace H : (some t360) = some r := H
       have A25 := Aside0.mk A250
       clear A250
       obtain rfl := Option.some.inj H
       have hnb26 := NB356_357.out
       have hnc26 := NB357_356.out
       have hcz27_0 : wc.cell? ⟨gb356, 0, none⟩ = some (.bool a1_0) := (blk_cell BK356.out 0).trans rfl
       have hcz27_1 : wc.cell? ⟨gb356, 1, none⟩ = some (.int .i64 a1_1) := (blk_cell BK356.out 1).trans rfl
       have hfz27_0 := blk_frozen BK356.out 0
       have hfz27_1 := blk_frozen BK356.out 1
       have hcz28_0 : wc.cell? ⟨gb357, 0, none⟩ = some (.bool a2_0) := (blk_cell BK357.out 0).trans rfl
       have hcz28_1 : wc.cell? ⟨gb357, 1, none⟩ = some (.int .i64 a2_1) := (blk_cell BK357.out 1).trans rfl
       have hfz28_0 := blk_frozen BK357.out 0
       have hfz28_1 := blk_frozen BK357.out 1
       go_wp2_with (first | ((with_reducible refine gate_callee (f := 92) rfl ?_); refine goesL_ (some 37) rfl rfl Try.func92 (by kernel_rfl) rfl #[.bool (decide (a1_1 < a2_1))] rfl (by (try simp only [List.map_toArray, List.map_cons, List.map_nil]); first | done | rfl | (simp only [List.length_drop, List.length_take]; rfl)) ?_; (with_reducible refine (watersmeetref03_truth.calls (decide (a1_1 < a2_1)) t360 _ A25.out).mono ?_); rintro e w' ⟨rfl, ⟨nd, rfl⟩⟩; refine ⟨_, rfl, ?_⟩))
       go_ret
       exact ⟨by first | rfl | (simp [errW_none, errW_some] <;> rfl) | (simp [*, errW_none, errW_some] <;> rfl), by repeat (first | (with_reducible first | exact HB.out | apply below_alloc | apply pw_below_drewN | apply below_drew1 | refine below_set ?_ GE356.out | refine below_set ?_ GE357.out) | exact HB.out)⟩
      ·rw [if_neg c24] at H
       have c24b0 : (a0 == 3) = false := beq_eq_false_iff_ne.mpr c24
       have c24b1 : (a0 != 3) = true := bne_iff_ne.mpr c24
       by_cases c29 : a0 = 4
       ·rw [if_pos c29] at H
        have c29b0 : (a0 == 4) = true := beq_iff_eq.mpr c29
        have c29b1 : (a0 != 4) = false := bne_eq_false_iff_eq.mpr c29
        clear c29
        replace H := Option.bind_eq_some_iff.mp H
        obtain ⟨t361, A300, H⟩ := H
        replace H : (some t361) = some r := H
        have A30 := Aside0.mk A300
        clear A300
        obtain rfl := Option.some.inj H
        have hnb31 := NB356_357.out
        have hnc31 := NB357_356.out
        have hcz32_0 : wc.cell? ⟨gb356, 0, none⟩ = some (.bool a1_0) := (blk_cell BK356.out 0).trans rfl
        have hcz32_1 : wc.cell? ⟨gb356, 1, none⟩ = some (.int .i64 a1_1) := (blk_cell BK356.out 1).trans rfl
        have hfz32_0 := blk_frozen BK356.out 0
        have hfz32_1 := blk_frozen BK356.out 1
        have hcz33_0 : wc.cell? ⟨gb357, 0, none⟩ = some (.bool a2_0) := (blk_cell BK357.out 0).trans rfl
        have hcz33_1 : wc.cell? ⟨gb357, 1, none⟩ = some (.int .i64 a2_1) := (blk_cell BK357.out 1).trans rfl
        have hfz33_0 := blk_frozen BK357.out 0
        have hfz33_1 := blk_frozen BK357.out 1
        go_wp2_with (first | ((with_reducible refine gate_callee (f := 92) rfl ?_); refine goesL_ (some 45) rfl rfl Try.func92 (by kernel_rfl) rfl #[.bool (decide (a1_1 ≤ a2_1))] rfl (by (try simp only [List.map_toArray, List.map_cons, List.map_nil]); first | done | rfl | (simp only [List.length_drop, List.length_take]; rfl)) ?_; (with_reducible refine (watersmeetref03_truth.calls (decide (a1_1 ≤ a2_1)) t361 _ A30.out).mono ?_); rintro e w' ⟨rfl, ⟨nd, rfl⟩⟩; refine ⟨_, rfl, ?_⟩))
        go_ret
        exact ⟨by first | rfl | (simp [errW_none, errW_some] <;> rfl) | (simp [*, errW_none, errW_some] <;> rfl), by repeat (first | (with_reducible first | exact HB.out | apply below_alloc | apply pw_below_drewN | apply below_drew1 | refine below_set ?_ GE356.out | refine below_set ?_ GE357.out) | exact HB.out)⟩
       ·rw [if_neg c29] at H
        have c29b0 : (a0 == 4) = false := beq_eq_false_iff_ne.mpr c29
        have c29b1 : (a0 != 4) = true := bne_iff_ne.mpr c29
        by_cases c34 : a0 = 5
        ·rw [if_pos c34] at H
         have c34b0 : (a0 == 5) = true := beq_iff_eq.mpr c34
         have c34b1 : (a0 != 5) = false := bne_eq_false_iff_eq.mpr c34
         clear c34
         replace H := Option.bind_eq_some_iff.mp H
         obtain ⟨t362, A350, H⟩ := H
         replace H : (some t362) = some r := H
         have A35 := Aside0.mk A350
         clear A350
         obtain rfl := Option.some.inj H
         have hnb36 := NB356_357.out
         have hnc36 := NB357_356.out
         have hcz37_0 : wc.cell? ⟨gb356, 0, none⟩ = some (.bool a1_0) := (blk_cell BK356.out 0).trans rfl
         have hcz37_1 : wc.cell? ⟨gb356, 1, none⟩ = some (.int .i64 a1_1) := (blk_cell BK356.out 1).trans rfl
         have hfz37_0 := blk_frozen BK356.out 0
         have hfz37_1 := blk_frozen BK356.out 1
         have hcz38_0 : wc.cell? ⟨gb357, 0, none⟩ = some (.bool a2_0) := (blk_cell BK357.out 0).trans rfl
         have hcz38_1 : wc.cell? ⟨gb357, 1, none⟩ = some (.int .i64 a2_1) := (blk_cell BK357.out 1).trans rfl
         have hfz38_0 := blk_frozen BK357.out 0
         have hfz38_1 := blk_frozen BK357.out 1
         go_wp2_with (first | ((with_reducible refine gate_callee (f := 92) rfl ?_); refine goesL_ (some 53) rfl rfl Try.func92 (by kernel_rfl) rfl #[.bool (decide (a1_1 > a2_1))] rfl (by (try simp only [List.map_toArray, List.map_cons, List.map_nil]); first | done | rfl | (simp only [List.length_drop, List.length_take]; rfl)) ?_; (with_reducible refine (watersmeetref03_truth.calls (decide (a1_1 > a2_1)) t362 _ A35.out).mono ?_); rintro e w' ⟨rfl, ⟨nd, rfl⟩⟩; refine ⟨_, rfl, ?_⟩))
         go_ret
         exact ⟨by first | rfl | (simp [errW_none, errW_some] <;> rfl) | (simp [*, errW_none, errW_some] <;> rfl), by repeat (first | (with_reducible first | exact HB.out | apply below_alloc | apply pw_below_drewN | apply below_drew1 | refine below_set ?_ GE356.out | refine below_set ?_ GE357.out) | exact HB.out)⟩
        ·rw [if_neg c34] at H
         have c34b0 : (a0 == 5) = false := beq_eq_false_iff_ne.mpr c34
         have c34b1 : (a0 != 5) = true := bne_iff_ne.mpr c34
         by_cases c39 : a0 = 6
         ·rw [if_pos c39] at H
          have c39b0 : (a0 == 6) = true := beq_iff_eq.mpr c39
          have c39b1 : (a0 != 6) = false := bne_eq_false_iff_eq.mpr c39
          clear c39
          replace H := Option.bind_eq_some_iff.mp H
          obtain ⟨t363, A400, H⟩ := H
          replace H : (some t363) = some r := H
          have A40 := Aside0.mk A400
          clear A400
          obtain rfl := Option.some.inj H
          have hnb41 := NB356_357.out
          have hnc41 := NB357_356.out
          have hcz42_0 : wc.cell? ⟨gb356, 0, none⟩ = some (.bool a1_0) := (blk_cell BK356.out 0).trans rfl
          have hcz42_1 : wc.cell? ⟨gb356, 1, none⟩ = some (.int .i64 a1_1) := (blk_cell BK356.out 1).trans rfl
          have hfz42_0 := blk_frozen BK356.out 0
          have hfz42_1 := blk_frozen BK356.out 1
          have hcz43_0 : wc.cell? ⟨gb357, 0, none⟩ = some (.bool a2_0) := (blk_cell BK357.out 0).trans rfl
          have hcz43_1 : wc.cell? ⟨gb357, 1, none⟩ = some (.int .i64 a2_1) := (blk_cell BK357.out 1).trans rfl
          have hfz43_0 := blk_frozen BK357.out 0
          have hfz43_1 := blk_frozen BK357.out 1
          go_wp2_with (first | ((with_reducible refine gate_callee (f := 92) rfl ?_); refine goesL_ (some 61) rfl rfl Try.func92 (by kernel_rfl) rfl #[.bool (decide (a1_1 ≥ a2_1))] rfl (by (try simp only [List.map_toArray, List.map_cons, List.map_nil]); first | done | rfl | (simp only [List.length_drop, List.length_take]; rfl)) ?_; (with_reducible refine (watersmeetref03_truth.calls (decide (a1_1 ≥ a2_1)) t363 _ A40.out).mono ?_); rintro e w' ⟨rfl, ⟨nd, rfl⟩⟩; refine ⟨_, rfl, ?_⟩))
          go_ret
          exact ⟨by first | rfl | (simp [errW_none, errW_some] <;> rfl) | (simp [*, errW_none, errW_some] <;> rfl), by repeat (first | (with_reducible first | exact HB.out | apply below_alloc | apply pw_below_drewN | apply below_drew1 | refine below_set ?_ GE356.out | refine below_set ?_ GE357.out) | exact HB.out)⟩
         ·rw [if_neg c39] at H
          have c39b0 : (a0 == 6) = false := beq_eq_false_iff_ne.mpr c39
          have c39b1 : (a0 != 6) = true := bne_iff_ne.mpr c39
          obtain rfl := Option.some.inj H
          go_wp2
          go_ret
          exact ⟨by first | rfl | (simp [errW_none, errW_some] <;> rfl) | (simp [*, errW_none, errW_some] <;> rfl), by repeat (first | (with_reducible first | exact HB.out | apply below_alloc | apply pw_below_drewN | apply below_drew1 | refine below_set ?_ GE356.out | refine below_set ?_ GE357.out) | exact HB.out)⟩

end Go.Proofs.Ytigkkfhpnfjmhaa.PRejT
