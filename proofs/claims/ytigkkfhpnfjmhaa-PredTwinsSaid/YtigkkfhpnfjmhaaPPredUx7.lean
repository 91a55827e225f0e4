/- Laid by a program of this session over the printer of the kit: contracts of functions of the given program, and rows of laws. Lean checks it. -/
import Derived.Test.YtigkkfhpnfjmhaaPPredUx0
import Derived.Test.YtigkkfhpnfjmhaaPPredUx6
namespace Go.Proofs.Ytigkkfhpnfjmhaa.PPredU
open Go.RowKit Go.Proofs.YtigkkfhpnfjmhaaW.PrintWords Go.Proofs.YtigkkfhpnfjmhaaW.PrintLast Go.Proofs.YtigkkfhpnfjmhaaW.PrintMore
attribute [local go_sem] max2_int min2_int max_two min_two max_three min_three max_four min_four   -- for this text's walks alone
set_option linter.unusedVariables false
set_option linter.unusedSimpArgs false

/-! ### pred_gather_uint64_at_pred_Tables_1: function 77 -/
mutual
def pred_gather_uint64_at_pred_Tables_1.l0 : Nat → List Int → List (S46) → Int → Int → Option (List Int)
 | 0, _, _, _, _ => none
 | k + 1, x5, x12, x13, x14 => if x14 < x13 then (if 0 ≤ x14 then (if x14 < (x12.length : Int) then ((pred_gather_uint64_at_pred_Tables_1.f k ((rd_T46 x12 x14).f0) ((rd_T46 x12 x14).f1) ((rd_T46 x12 x14).f2) ((rd_T46 x12 x14).f3.f0) ((rd_T46 x12 x14).f3.f1) ((rd_T46 x12 x14).f3.f2) ((rd_T46 x12 x14).f3.f3.f0) ((rd_T46 x12 x14).f3.f3.f1) ((rd_T46 x12 x14).f4.f0) ((rd_T46 x12 x14).f4.f1) ((rd_T46 x12 x14).f4.f2) ((rd_T46 x12 x14).f4.f3.f0) ((rd_T46 x12 x14).f4.f3.f1) ((rd_T46 x12 x14).f5)).bind fun t333 => (if x5.length + t333.length < 17592186044416 then (pred_gather_uint64_at_pred_Tables_1.l0 k (x5 ++ t333) x12 x13 (wrap64 (x14 + 1))) else (none))) else (none)) else (none)) else (some x5)
def pred_gather_uint64_at_pred_Tables_1.f : Nat → Int → Int → Int → Int → Int → Int → Bool → Int → Int → Int → Int → Bool → Int → List (S46) → Option (List Int)
 | 0, _, _, _, _, _, _, _, _, _, _, _, _, _, _ => none
 | k + 1, a0_0, a0_1, a0_2, a0_3, a0_4, a0_5, a0_6, a0_7, a0_8, a0_9, a0_10, a0_11, a0_12, l0_13 => (pred_Tables_1.f k a0_0 a0_1 a0_2 a0_3 a0_4 a0_5 a0_6 a0_7 a0_8 a0_9 a0_10 a0_11 a0_12 l0_13).bind fun t328 => (pred_gather_uint64_at_pred_Tables_1.l0 k t328 l0_13 (l0_13.length : Int) 0)
end
theorem pred_gather_uint64_at_pred_Tables_1.mono_l : ∀ k, (∀ y0 y1 y2 y3 y4 y5 y6 y7 y8 y9 y10 y11 y12 y13, LeO (pred_gather_uint64_at_pred_Tables_1.f k y0 y1 y2 y3 y4 y5 y6 y7 y8 y9 y10 y11 y12 y13) (pred_gather_uint64_at_pred_Tables_1.f (k + 1) y0 y1 y2 y3 y4 y5 y6 y7 y8 y9 y10 y11 y12 y13)) ∧ (∀ y0 y1 y2 y3, LeO (pred_gather_uint64_at_pred_Tables_1.l0 k y0 y1 y2 y3) (pred_gather_uint64_at_pred_Tables_1.l0 (k + 1) y0 y1 y2 y3))
 | 0 => ⟨fun _ _ _ _ _ _ _ _ _ _ _ _ _ _ r h => by simp [pred_gather_uint64_at_pred_Tables_1.f] at h, fun _ _ _ _ r h => by simp [pred_gather_uint64_at_pred_Tables_1.l0] at h⟩
 | k + 1 => by
  obtain ⟨ih0, ih1⟩ := pred_gather_uint64_at_pred_Tables_1.mono_l k
  refine ⟨?_, ?_⟩
  ·intro y0 y1 y2 y3 y4 y5 y6 y7 y8 y9 y10 y11 y12 y13
   unfold pred_gather_uint64_at_pred_Tables_1.f
   repeat' first
   | (with_reducible exact ih0 _ _ _ _ _ _ _ _ _ _ _ _ _ _)
   | (with_reducible exact ih1 _ _ _ _)
   | (with_reducible exact pred_Tables_1.mono _ _ _ _ _ _ _ _ _ _ _ _ _ _ _)
   | (with_reducible exact LeO.refl _)
   | (with_reducible exact LeO.none _)
   | (with_reducible refine LeO.ite ?_ ?_)
   | (with_reducible refine LeO.bind ?_ (fun _ => ?_))
   | exact ih0 _ _ _ _ _ _ _ _ _ _ _ _ _ _
   | exact ih1 _ _ _ _
   | exact pred_Tables_1.mono _ _ _ _ _ _ _ _ _ _ _ _ _ _ _
   | exact LeO.none _
   | refine LeO.ite ?_ ?_
   | refine LeO.bind ?_ (fun _ => ?_)
  ·intro y0 y1 y2 y3
   unfold pred_gather_uint64_at_pred_Tables_1.l0
   repeat' first
   | (with_reducible exact ih0 _ _ _ _ _ _ _ _ _ _ _ _ _ _)
   | (with_reducible exact ih1 _ _ _ _)
   | (with_reducible exact pred_Tables_1.mono _ _ _ _ _ _ _ _ _ _ _ _ _ _ _)
   | (with_reducible exact LeO.refl _)
   | (with_reducible exact LeO.none _)
   | (with_reducible refine LeO.ite ?_ ?_)
   | (with_reducible refine LeO.bind ?_ (fun _ => ?_))
   | exact ih0 _ _ _ _ _ _ _ _ _ _ _ _ _ _
   | exact ih1 _ _ _ _
   | exact pred_Tables_1.mono _ _ _ _ _ _ _ _ _ _ _ _ _ _ _
   | exact LeO.none _
   | refine LeO.ite ?_ ?_
   | refine LeO.bind ?_ (fun _ => ?_)
theorem pred_gather_uint64_at_pred_Tables_1.mono : ∀ a0 a1 a2 a3 a4 a5 a6 a7 a8 a9 a10 a11 a12 a13 k, LeO (pred_gather_uint64_at_pred_Tables_1.f k a0 a1 a2 a3 a4 a5 a6 a7 a8 a9 a10 a11 a12 a13) (pred_gather_uint64_at_pred_Tables_1.f (k + 1) a0 a1 a2 a3 a4 a5 a6 a7 a8 a9 a10 a11 a12 a13) := by
 intro a0 a1 a2 a3 a4 a5 a6 a7 a8 a9 a10 a11 a12 a13 k
 obtain ⟨ih0, ih1⟩ := pred_gather_uint64_at_pred_Tables_1.mono_l k
 exact ih0 a0 a1 a2 a3 a4 a5 a6 a7 a8 a9 a10 a11 a12 a13
set_option maxHeartbeats 8000000 in
set_option maxRecDepth 100000 in
theorem pred_gather_uint64_at_pred_Tables_1.calls (k : Nat) : ∀ (a0_0 : Int) (a0_1 : Int) (a0_2 : Int) (a0_3 : Int) (a0_4 : Int) (a0_5 : Int) (a0_6 : Bool) (a0_7 : Int) (a0_8 : Int) (a0_9 : Int) (a0_10 : Int) (a0_11 : Bool) (a0_12 : Int) (A0_13 : Option Addr) (c0_13 : Nat) (l0_13 : List (S46))  (r : List Int) (w : World) (hr0_13 : Kd.C k46 w A0_13 l0_13.length l0_13) (hc0_13 : l0_13.length ≤ c0_13) (h : pred_gather_uint64_at_pred_Tables_1.f k a0_0 a0_1 a0_2 a0_3 a0_4 a0_5 a0_6 a0_7 a0_8 a0_9 a0_10 a0_11 a0_12 l0_13 = some r),
  Calls Try.prog 77 #[.agg #[.int .i64 a0_0, .int .i64 a0_1, .int .i64 a0_2, .int .i64 a0_3, .int .i64 a0_4, .int .i64 a0_5, .bool a0_6, .int .i64 a0_7, .int .i64 a0_8, .int .i64 a0_9, .int .i64 a0_10, .bool a0_11, .int .i64 a0_12, .slice A0_13 l0_13.length c0_13], .func (.func 78) #[] #[]] w fun e w' => ∃ v0_ : Value, e = .returned (v0_) ∧ Kd.R (Kd.int .u64) 28 w' w.heap.size (fun _ => True) v0_ r ∧ Below w.heap.size w w' := by
 induction k using Nat.strongRecOn with
 | _ k ih =>
 intro a0_0 a0_1 a0_2 a0_3 a0_4 a0_5 a0_6 a0_7 a0_8 a0_9 a0_10 a0_11 a0_12 A0_13 c0_13 l0_13 r w hr0_13 hc0_13 h
 cases k with
 | zero => exact absurd h (by simp [pred_gather_uint64_at_pred_Tables_1.f])
 | succ k =>
 simp only [pred_gather_uint64_at_pred_Tables_1.f] at h
 have hu46 := Try.underlying46
 have HR0_13 := Aside0.mk hr0_13
 have HC0_13 := Aside0.mk hc0_13
 clear hr0_13 hc0_13
 have HB := Aside0.mk (Below.refl w.heap.size w)
 have H : ((pred_Tables_1.f k a0_0 a0_1 a0_2 a0_3 a0_4 a0_5 a0_6 a0_7 a0_8 a0_9 a0_10 a0_11 a0_12 l0_13).bind fun t328 => (pred_gather_uint64_at_pred_Tables_1.l0 k t328 l0_13 (l0_13.length : Int) 0)) = some r := h
 clear h
 replace H := Option.bind_eq_some_iff.mp H
 obtain ⟨t328, A30, H⟩ := H
 replace H : (pred_gather_uint64_at_pred_Tables_1.l0 k t328 l0_13 (l0_13.length : Int) 0) = some r := H
 have A3 := Aside0.mk A30
 clear A30
 have H' := Aside0.mk H
 clear H
 go_enter Try.func77, Try.ntmps77
 go_wp2_with (first | ((with_reducible refine gate_dst (N := 2) rfl ?_); refine box_event ?hg (N := 2) ?hd (cs := #[.int .i64 a0_0, .int .i64 a0_1, .int .i64 a0_2, .int .i64 a0_3, .int .i64 a0_4, .int .i64 a0_5, .bool a0_6, .int .i64 a0_7, .int .i64 a0_8, .int .i64 a0_9, .int .i64 a0_10, .bool a0_11, .int .i64 a0_12, .slice A0_13 l0_13.length c0_13]) (t := 46) ?hr ?_; (case hd => rfl); (case hg => rfl); (case hr => first | (go_simp; done) | (go_simp; rfl)); intro gb327 hg w4 hbox hb; have n0_ := Aside0.mk (below_step (by repeat (first | (with_reducible first | exact HB.out | apply below_alloc | apply pw_below_drewN | apply below_drew1) | exact HB.out)) hb); have n1_ := Aside0.mk (hbox); have n2_ := Aside0.mk ((by rw [hg]; exact (below_size (by repeat (first | (with_reducible first | exact HB.out | apply below_alloc | apply pw_below_drewN | apply below_drew1) | exact HB.out))) : w.heap.size ≤ gb327)); have n3_ := n2_; clear HB; have HB := n0_; have BK327 := n1_; have GW327 := n2_; have GE327 := n3_; clear n0_ n1_ n2_ n3_; clear hb hbox hg; have hcz5 := blk_cell BK327.out; have hfz5 := blk_frozen BK327.out; have hfz5_13 := blk_frozen BK327.out 13) | ((with_reducible refine gate_calleev (t := 8) rfl ?_); refine goesV_ (caps := #[]) (some 10) rfl rfl Try.func78 (by kernel_rfl) rfl #[.agg #[.int .i64 a0_0, .int .i64 a0_1, .int .i64 a0_2, .int .i64 a0_3, .int .i64 a0_4, .int .i64 a0_5, .bool a0_6, .int .i64 a0_7, .int .i64 a0_8, .int .i64 a0_9, .int .i64 a0_10, .bool a0_11, .int .i64 a0_12, .slice A0_13 l0_13.length c0_13]] rfl rfl (by (try simp only [List.map_toArray, List.map_cons, List.map_nil]); first | done | rfl | (simp only [List.length_drop, List.length_take]; rfl)) ?_; (with_reducible refine (pred_Tables_1.calls k a0_0 a0_1 a0_2 a0_3 a0_4 a0_5 a0_6 a0_7 a0_8 a0_9 a0_10 a0_11 a0_12 _ _ l0_13 t328 _ ?side1 ?side2 A3.out).mono ?_); (case side1 => repeat (first | exact (Kd.C_below HR0_13.out HB.out) | (with_reducible refine Kd.C_alloc ?_ _) | (with_reducible refine Kd.C_drewN ?_ _) | (with_reducible refine Kd.C_drew ?_))); (case side2 => exact HC0_13.out); rintro e w6 ⟨v329, rfl, ho0, hb⟩; refine ⟨_, rfl, ?_⟩; have n0_ := Aside0.mk (Kd.R_lower ho0 (below_size (by repeat (first | (with_reducible first | exact HB.out | apply below_alloc | apply pw_below_drewN | apply below_drew1 | refine below_set ?_ GE327.out) | exact HB.out)))); have n1_ := Aside0.mk (blk_below (by (with_reducible repeat (first | refine blk_drewN ?_ _ | refine blk_drew ?_ | refine blk_alloc ?_ _)); exact BK327.out) hb); have n2_ := Aside0.mk (below_step (by repeat (first | (with_reducible first | exact HB.out | apply below_alloc | apply pw_below_drewN | apply below_drew1 | refine below_set ?_ GE327.out) | exact HB.out)) hb); clear BK327; clear HB; have HO330 := n0_; have BK327 := n1_; have HB := n2_; clear n0_ n1_ n2_; (try clear hb); (try clear hb2); (try clear hk); (try clear hi); (try clear ho0); have hcz7 := blk_cell BK327.out; have hfz7 := blk_frozen BK327.out; have hfz7_13 := blk_frozen BK327.out 13))
 go_loopg [5, 14] k (fun kq v5 v14 w' => ∃ (x5_1 : List Int) (x14_1 : Int), v14 = .int .i64 x14_1 ∧ Aside0 (pred_gather_uint64_at_pred_Tables_1.l0 kq x5_1 l0_13 (l0_13.length : Int) x14_1 = some r) ∧ Aside0 (kq ≤ k) ∧ Aside0 (Kd.R (Kd.int .u64) 28 w' w.heap.size (fun _ => True) v5 x5_1) ∧ Aside0 (w'.heap[gb327]? = some (.cells #[.int .i64 a0_0, .int .i64 a0_1, .int .i64 a0_2, .int .i64 a0_3, .int .i64 a0_4, .int .i64 a0_5, .bool a0_6, .int .i64 a0_7, .int .i64 a0_8, .int .i64 a0_9, .int .i64 a0_10, .bool a0_11, .int .i64 a0_12, (.slice A0_13 l0_13.length c0_13)] 46 (0, 0))) ∧ Aside0 (Below w.heap.size w w'))
 case atStart => exact ⟨(t328), (0), (by first | rfl | (simp; done) | (simp [*]; done) | (simp; decide)), H', ⟨Nat.le_refl _⟩, ⟨by (with_reducible repeat (first | apply Kd.R_alloc | apply Kd.R_drewN | apply Kd.R_drew)); exact HO330.out⟩, ⟨by (with_reducible repeat (first | refine blk_drewN ?_ _ | refine blk_drew ?_ | refine blk_alloc ?_ _)); exact BK327.out⟩, ⟨by repeat (first | (with_reducible first | exact HB.out | apply below_alloc | apply pw_below_drewN | apply below_drew1 | refine below_set ?_ GE327.out) | exact HB.out)⟩⟩
 case round =>
  clear H'
  try clear c1
  try clear p2
  try clear c7
  try clear hcz5
  try clear hcz7
  try clear hfz5
  try clear hfz5_13
  try clear hfz5
  try clear hfz7
  try clear hfz7_13
  try clear hfz7
  obtain ⟨x5_1, x14_1, rfl, HA, HK1, HO_5, BK327, HB⟩ := hrel
  cases gk with
  | zero => exact absurd HA.out (by simp [pred_gather_uint64_at_pred_Tables_1.l0])
  | succ k1 =>
   have H := HA.out
   clear HA
   simp only [pred_gather_uint64_at_pred_Tables_1.l0] at H
   by_cases c8 : x14_1 < (l0_13.length : Int)
   ·rw [if_pos c8] at H
    have c8b0 : decide (x14_1 < (l0_13.length : Int)) = true := decide_eq_true c8
    clear c8
    by_cases c9 : 0 ≤ x14_1
    ·rw [if_pos c9] at H
     have c9b0 : decide (0 ≤ x14_1) = true := decide_eq_true c9
     clear c9
     by_cases c10 : x14_1 < (l0_13.length : Int)
     ·rw [if_pos c10] at H
      have c10b0 : decide (x14_1 < (l0_13.length : Int)) = true := decide_eq_true c10
      clear c10
      replace H := Option.bind_eq_some_iff.mp H
      obtain ⟨t333, A110, H⟩ := H
      replace H : (if x5_1.length + t333.length < 17592186044416 then (pred_gather_uint64_at_pred_Tables_1.l0 k1 (x5_1 ++ t333) l0_13 (l0_13.length : Int) (wrap64 (x14_1 + 1))) else (none)) = some r := H
      have A11 := Aside0.mk A110
      clear A110
      by_cases c12 : x5_1.length + t333.length < 17592186044416
      ·rw [if_pos c12] at H
       have LMc12 := Aside0.mk c12
       clear c12
       obtain ⟨y336, hy336⟩ : ∃ y_ : List Int, y_ = (x5_1 ++ t333) := ⟨_, rfl⟩
       replace H : (pred_gather_uint64_at_pred_Tables_1.l0 k1 y336 l0_13 (l0_13.length : Int) (wrap64 (x14_1 + 1))) = some r := by first | (rw [hy336]; with_reducible exact H) | (have H2_ := (Option.bind_some _ _).symm.trans H; rw [hy336]; with_reducible exact H2_) | (have H2_ := (Option.bind_some _ _).symm.trans H; with_reducible exact H2_) | with_reducible exact H | (rw [hy336]; exact H) | exact H
       have Ny336 := Aside0.mk hy336
       clear hy336
       have H' := Aside0.mk H
       clear H
       have p331 : 0 ≤ (x14_1 : Int) := of_decide_eq_true (by first | (with_reducible assumption) | assumption)
       have q331 : x14_1 < (l0_13.length : Int) := of_decide_eq_true (by first | (with_reducible assumption) | assumption)
       obtain ⟨ad331, A331_13, c331_13, e331, hx331_0, hx331_1, hx331_2, hx331_3, hx331_4, hx331_5, hx331_6, hx331_7, hx331_8, hx331_9, hx331_10, hx331_11, hx331_12, hx331_13, hl331_13, hi331_13⟩ := at_T46 HR0_13.out x14_1 p331 q331
       cases e331
       replace hx331_0 := (HB.out.cell (World.block_lt_of_cell? w _ hx331_0)).trans hx331_0
       replace hx331_1 := (HB.out.cell (World.block_lt_of_cell? w _ hx331_1)).trans hx331_1
       replace hx331_2 := (HB.out.cell (World.block_lt_of_cell? w _ hx331_2)).trans hx331_2
       replace hx331_3 := (HB.out.cell (World.block_lt_of_cell? w _ hx331_3)).trans hx331_3
       replace hx331_4 := (HB.out.cell (World.block_lt_of_cell? w _ hx331_4)).trans hx331_4
       replace hx331_5 := (HB.out.cell (World.block_lt_of_cell? w _ hx331_5)).trans hx331_5
       replace hx331_6 := (HB.out.cell (World.block_lt_of_cell? w _ hx331_6)).trans hx331_6
       replace hx331_7 := (HB.out.cell (World.block_lt_of_cell? w _ hx331_7)).trans hx331_7
       replace hx331_8 := (HB.out.cell (World.block_lt_of_cell? w _ hx331_8)).trans hx331_8
       replace hx331_9 := (HB.out.cell (World.block_lt_of_cell? w _ hx331_9)).trans hx331_9
       replace hx331_10 := (HB.out.cell (World.block_lt_of_cell? w _ hx331_10)).trans hx331_10
       replace hx331_11 := (HB.out.cell (World.block_lt_of_cell? w _ hx331_11)).trans hx331_11
       replace hx331_12 := (HB.out.cell (World.block_lt_of_cell? w _ hx331_12)).trans hx331_12
       replace hx331_13 := (HB.out.cell (World.block_lt_of_cell? w _ hx331_13)).trans hx331_13
       have HR331_13 := Aside0.mk hi331_13
       have HC331_13 := Aside0.mk hl331_13
       clear hi331_13 hl331_13
       replace p331 := eq_true p331
       replace q331 := eq_true q331
       go_wp2_with (first | ((with_reducible refine gate_dst (N := 7) rfl ?_); refine box_event ?hg (N := 7) ?hd (cs := #[.int .i64 0, .int .i64 0, .int .i64 0, .int .i64 0, .int .i64 0, .int .i64 0, .bool false, .int .i64 0, .int .i64 0, .int .i64 0, .int .i64 0, .bool false, .int .i64 0, .slice none 0 0]) (t := 46) ?hr ?_; (case hd => rfl); (case hg => rfl); (case hr => first | (go_simp; done) | (go_simp; rfl)); intro gb332 hg w13 hbox hb; have n0_ := Aside0.mk (Kd.R_below (by (with_reducible repeat (first | apply Kd.R_alloc | apply Kd.R_drewN | apply Kd.R_drew)); exact HO_5.out) hb); have n1_ := Aside0.mk (blk_below (by (with_reducible repeat (first | refine blk_drewN ?_ _ | refine blk_drew ?_ | refine blk_alloc ?_ _)); exact BK327.out) hb); have n2_ := Aside0.mk (below_step (by repeat (first | (with_reducible first | exact HB.out | apply below_alloc | apply pw_below_drewN | apply below_drew1 | refine below_set ?_ GE327.out) | exact HB.out)) hb); have n3_ := Aside0.mk (hbox); have n4_ := Aside0.mk ((by rw [hg]; exact (below_size (by repeat (first | (with_reducible first | exact HB.out | apply below_alloc | apply pw_below_drewN | apply below_drew1 | refine below_set ?_ GE327.out) | exact HB.out))) : w.heap.size ≤ gb332)); have n5_ := n4_; have n6_ := Aside0.mk ((by rw [hg]; exact Nat.ne_of_lt (blk_lt (by (with_reducible repeat (first | refine blk_drewN ?_ _ | refine blk_drew ?_ | refine blk_alloc ?_ _)); exact BK327.out)) : gb327 ≠ gb332)); have n7_ := Aside0.mk ((by rw [hg]; exact Nat.ne_of_gt (blk_lt (by (with_reducible repeat (first | refine blk_drewN ?_ _ | refine blk_drew ?_ | refine blk_alloc ?_ _)); exact BK327.out)) : gb332 ≠ gb327)); clear HO_5; clear BK327; clear HB; have HO_5 := n0_; have BK327 := n1_; have HB := n2_; have BK332 := n3_; have GW332 := n4_; have GE332 := n5_; have NB327_332 := n6_; have NB332_327 := n7_; clear n0_ n1_ n2_ n3_ n4_ n5_ n6_ n7_; clear hb hbox hg; have hnb14 := NB332_327.out; have hnc14 := NB327_332.out; have hcz15 := blk_cell BK332.out; have hfz15 := blk_frozen BK332.out; have hfz15_13 := blk_frozen BK332.out 13) | ((with_reducible refine gate_callee (f := 77) rfl ?_); refine goesL_ (some 21) rfl rfl Try.func77 (by kernel_rfl) rfl #[.agg #[.int .i64 ((rd_T46 l0_13 x14_1).f0), .int .i64 ((rd_T46 l0_13 x14_1).f1), .int .i64 ((rd_T46 l0_13 x14_1).f2), .int .i64 ((rd_T46 l0_13 x14_1).f3.f0), .int .i64 ((rd_T46 l0_13 x14_1).f3.f1), .int .i64 ((rd_T46 l0_13 x14_1).f3.f2), .bool ((rd_T46 l0_13 x14_1).f3.f3.f0), .int .i64 ((rd_T46 l0_13 x14_1).f3.f3.f1), .int .i64 ((rd_T46 l0_13 x14_1).f4.f0), .int .i64 ((rd_T46 l0_13 x14_1).f4.f1), .int .i64 ((rd_T46 l0_13 x14_1).f4.f2), .bool ((rd_T46 l0_13 x14_1).f4.f3.f0), .int .i64 ((rd_T46 l0_13 x14_1).f4.f3.f1), .slice A331_13 ((rd_T46 l0_13 x14_1).f5).length c331_13], .func (.func 78) #[] #[]] rfl (by (try simp only [List.map_toArray, List.map_cons, List.map_nil]); first | done | rfl | (simp only [List.length_drop, List.length_take]; rfl)) ?_; (with_reducible refine (ih k1 (by have := HK1.out; omega) ((rd_T46 l0_13 x14_1).f0) ((rd_T46 l0_13 x14_1).f1) ((rd_T46 l0_13 x14_1).f2) ((rd_T46 l0_13 x14_1).f3.f0) ((rd_T46 l0_13 x14_1).f3.f1) ((rd_T46 l0_13 x14_1).f3.f2) ((rd_T46 l0_13 x14_1).f3.f3.f0) ((rd_T46 l0_13 x14_1).f3.f3.f1) ((rd_T46 l0_13 x14_1).f4.f0) ((rd_T46 l0_13 x14_1).f4.f1) ((rd_T46 l0_13 x14_1).f4.f2) ((rd_T46 l0_13 x14_1).f4.f3.f0) ((rd_T46 l0_13 x14_1).f4.f3.f1) _ _ ((rd_T46 l0_13 x14_1).f5)  t333 _ ?side1 ?side2 A11.out).mono ?_); (case side1 => exact Kd.C_below HR331_13.out (by repeat (first | (with_reducible first | exact HB.out | apply below_alloc | apply pw_below_drewN | apply below_drew1 | refine below_set ?_ GE327.out | refine below_set ?_ GE332.out) | exact HB.out))); (case side2 => exact HC331_13.out); rintro e w16 ⟨v334, rfl, ho0, hb⟩; refine ⟨_, rfl, ?_⟩; have n0_ := Aside0.mk (Kd.R_elder' (by (with_reducible repeat (first | apply Kd.R_alloc | apply Kd.R_drewN | apply Kd.R_drew)); exact (Kd.R_mono (Kd.R_far (p := ⟨gb332, 13, none⟩) (Kd.R_far (p := ⟨gb332, 12, none⟩) (Kd.R_far (p := ⟨gb332, 11, none⟩) (Kd.R_far (p := ⟨gb332, 10, none⟩) (Kd.R_far (p := ⟨gb332, 9, none⟩) (Kd.R_far (p := ⟨gb332, 8, none⟩) (Kd.R_far (p := ⟨gb332, 7, none⟩) (Kd.R_far (p := ⟨gb332, 6, none⟩) (Kd.R_far (p := ⟨gb332, 5, none⟩) (Kd.R_far (p := ⟨gb332, 4, none⟩) (Kd.R_far (p := ⟨gb332, 3, none⟩) (Kd.R_far (p := ⟨gb332, 2, none⟩) (Kd.R_far (p := ⟨gb332, 1, none⟩) (Kd.R_far (p := ⟨gb332, 0, none⟩) (Kd.R_types HO_5.out BK332.out (by decide)) (fun _ hk => hk.2) (.int .i64 ((rd_T46 l0_13 x14_1).f0))) (fun _ hk => hk.2) (.int .i64 ((rd_T46 l0_13 x14_1).f1))) (fun _ hk => hk.2) (.int .i64 ((rd_T46 l0_13 x14_1).f2))) (fun _ hk => hk.2) (.int .i64 ((rd_T46 l0_13 x14_1).f3.f0))) (fun _ hk => hk.2) (.int .i64 ((rd_T46 l0_13 x14_1).f3.f1))) (fun _ hk => hk.2) (.int .i64 ((rd_T46 l0_13 x14_1).f3.f2))) (fun _ hk => hk.2) (.bool ((rd_T46 l0_13 x14_1).f3.f3.f0))) (fun _ hk => hk.2) (.int .i64 ((rd_T46 l0_13 x14_1).f3.f3.f1))) (fun _ hk => hk.2) (.int .i64 ((rd_T46 l0_13 x14_1).f4.f0))) (fun _ hk => hk.2) (.int .i64 ((rd_T46 l0_13 x14_1).f4.f1))) (fun _ hk => hk.2) (.int .i64 ((rd_T46 l0_13 x14_1).f4.f2))) (fun _ hk => hk.2) (.bool ((rd_T46 l0_13 x14_1).f4.f3.f0))) (fun _ hk => hk.2) (.int .i64 ((rd_T46 l0_13 x14_1).f4.f3.f1))) (fun _ hk => hk.2) (.slice A331_13 ((rd_T46 l0_13 x14_1).f5).length c331_13)) (fun _ h_ => h_.1))) (Kd.R_base ho0) hb); have n1_ := Aside0.mk (Kd.R_lower (Kd.R_new' ho0 (Kd.R_lt (by (with_reducible repeat (first | apply Kd.R_alloc | apply Kd.R_drewN | apply Kd.R_drew)); exact (Kd.R_mono (Kd.R_far (p := ⟨gb332, 13, none⟩) (Kd.R_far (p := ⟨gb332, 12, none⟩) (Kd.R_far (p := ⟨gb332, 11, none⟩) (Kd.R_far (p := ⟨gb332, 10, none⟩) (Kd.R_far (p := ⟨gb332, 9, none⟩) (Kd.R_far (p := ⟨gb332, 8, none⟩) (Kd.R_far (p := ⟨gb332, 7, none⟩) (Kd.R_far (p := ⟨gb332, 6, none⟩) (Kd.R_far (p := ⟨gb332, 5, none⟩) (Kd.R_far (p := ⟨gb332, 4, none⟩) (Kd.R_far (p := ⟨gb332, 3, none⟩) (Kd.R_far (p := ⟨gb332, 2, none⟩) (Kd.R_far (p := ⟨gb332, 1, none⟩) (Kd.R_far (p := ⟨gb332, 0, none⟩) (Kd.R_types HO_5.out BK332.out (by decide)) (fun _ hk => hk.2) (.int .i64 ((rd_T46 l0_13 x14_1).f0))) (fun _ hk => hk.2) (.int .i64 ((rd_T46 l0_13 x14_1).f1))) (fun _ hk => hk.2) (.int .i64 ((rd_T46 l0_13 x14_1).f2))) (fun _ hk => hk.2) (.int .i64 ((rd_T46 l0_13 x14_1).f3.f0))) (fun _ hk => hk.2) (.int .i64 ((rd_T46 l0_13 x14_1).f3.f1))) (fun _ hk => hk.2) (.int .i64 ((rd_T46 l0_13 x14_1).f3.f2))) (fun _ hk => hk.2) (.bool ((rd_T46 l0_13 x14_1).f3.f3.f0))) (fun _ hk => hk.2) (.int .i64 ((rd_T46 l0_13 x14_1).f3.f3.f1))) (fun _ hk => hk.2) (.int .i64 ((rd_T46 l0_13 x14_1).f4.f0))) (fun _ hk => hk.2) (.int .i64 ((rd_T46 l0_13 x14_1).f4.f1))) (fun _ hk => hk.2) (.int .i64 ((rd_T46 l0_13 x14_1).f4.f2))) (fun _ hk => hk.2) (.bool ((rd_T46 l0_13 x14_1).f4.f3.f0))) (fun _ hk => hk.2) (.int .i64 ((rd_T46 l0_13 x14_1).f4.f3.f1))) (fun _ hk => hk.2) (.slice A331_13 ((rd_T46 l0_13 x14_1).f5).length c331_13)) (fun _ h_ => h_.1))))) (below_size (by repeat (first | (with_reducible first | exact HB.out | apply below_alloc | apply pw_below_drewN | apply below_drew1 | refine below_set ?_ GE327.out | refine below_set ?_ GE332.out) | exact HB.out)))); have n2_ := Aside0.mk (blk_below (g := gb327) (o := .cells #[.int .i64 a0_0, .int .i64 a0_1, .int .i64 a0_2, .int .i64 a0_3, .int .i64 a0_4, .int .i64 a0_5, .bool a0_6, .int .i64 a0_7, .int .i64 a0_8, .int .i64 a0_9, .int .i64 a0_10, .bool a0_11, .int .i64 a0_12, .slice (some ad331) l0_13.length c0_13] 46 (0, 0)) (by (iterate 14 ((with_reducible repeat (first | refine blk_drewN ?_ _ | refine blk_drew ?_ | refine blk_alloc ?_ _)); refine blk_far ?_ NB327_332.out _)); (with_reducible repeat (first | refine blk_drewN ?_ _ | refine blk_drew ?_ | refine blk_alloc ?_ _)); exact BK327.out) hb); have n3_ := Aside0.mk (blk_below (g := gb332) (o := .cells #[.int .i64 ((rd_T46 l0_13 x14_1).f0), .int .i64 ((rd_T46 l0_13 x14_1).f1), .int .i64 ((rd_T46 l0_13 x14_1).f2), .int .i64 ((rd_T46 l0_13 x14_1).f3.f0), .int .i64 ((rd_T46 l0_13 x14_1).f3.f1), .int .i64 ((rd_T46 l0_13 x14_1).f3.f2), .bool ((rd_T46 l0_13 x14_1).f3.f3.f0), .int .i64 ((rd_T46 l0_13 x14_1).f3.f3.f1), .int .i64 ((rd_T46 l0_13 x14_1).f4.f0), .int .i64 ((rd_T46 l0_13 x14_1).f4.f1), .int .i64 ((rd_T46 l0_13 x14_1).f4.f2), .bool ((rd_T46 l0_13 x14_1).f4.f3.f0), .int .i64 ((rd_T46 l0_13 x14_1).f4.f3.f1), .slice A331_13 ((rd_T46 l0_13 x14_1).f5).length c331_13] 46 (0, 0)) (by (with_reducible repeat (first | refine blk_drewN ?_ _ | refine blk_drew ?_ | refine blk_alloc ?_ _)); refine blk_put (cs := #[.int .i64 ((rd_T46 l0_13 x14_1).f0), .int .i64 ((rd_T46 l0_13 x14_1).f1), .int .i64 ((rd_T46 l0_13 x14_1).f2), .int .i64 ((rd_T46 l0_13 x14_1).f3.f0), .int .i64 ((rd_T46 l0_13 x14_1).f3.f1), .int .i64 ((rd_T46 l0_13 x14_1).f3.f2), .bool ((rd_T46 l0_13 x14_1).f3.f3.f0), .int .i64 ((rd_T46 l0_13 x14_1).f3.f3.f1), .int .i64 ((rd_T46 l0_13 x14_1).f4.f0), .int .i64 ((rd_T46 l0_13 x14_1).f4.f1), .int .i64 ((rd_T46 l0_13 x14_1).f4.f2), .bool ((rd_T46 l0_13 x14_1).f4.f3.f0), .int .i64 ((rd_T46 l0_13 x14_1).f4.f3.f1), .slice none 0 0]) ?_ 13 _ rfl; (with_reducible repeat (first | refine blk_drewN ?_ _ | refine blk_drew ?_ | refine blk_alloc ?_ _)); refine blk_put (cs := #[.int .i64 ((rd_T46 l0_13 x14_1).f0), .int .i64 ((rd_T46 l0_13 x14_1).f1), .int .i64 ((rd_T46 l0_13 x14_1).f2), .int .i64 ((rd_T46 l0_13 x14_1).f3.f0), .int .i64 ((rd_T46 l0_13 x14_1).f3.f1), .int .i64 ((rd_T46 l0_13 x14_1).f3.f2), .bool ((rd_T46 l0_13 x14_1).f3.f3.f0), .int .i64 ((rd_T46 l0_13 x14_1).f3.f3.f1), .int .i64 ((rd_T46 l0_13 x14_1).f4.f0), .int .i64 ((rd_T46 l0_13 x14_1).f4.f1), .int .i64 ((rd_T46 l0_13 x14_1).f4.f2), .bool ((rd_T46 l0_13 x14_1).f4.f3.f0), .int .i64 0, .slice none 0 0]) ?_ 12 _ rfl; (with_reducible repeat (first | refine blk_drewN ?_ _ | refine blk_drew ?_ | refine blk_alloc ?_ _)); refine blk_put (cs := #[.int .i64 ((rd_T46 l0_13 x14_1).f0), .int .i64 ((rd_T46 l0_13 x14_1).f1), .int .i64 ((rd_T46 l0_13 x14_1).f2), .int .i64 ((rd_T46 l0_13 x14_1).f3.f0), .int .i64 ((rd_T46 l0_13 x14_1).f3.f1), .int .i64 ((rd_T46 l0_13 x14_1).f3.f2), .bool ((rd_T46 l0_13 x14_1).f3.f3.f0), .int .i64 ((rd_T46 l0_13 x14_1).f3.f3.f1), .int .i64 ((rd_T46 l0_13 x14_1).f4.f0), .int .i64 ((rd_T46 l0_13 x14_1).f4.f1), .int .i64 ((rd_T46 l0_13 x14_1).f4.f2), .bool false, .int .i64 0, .slice none 0 0]) ?_ 11 _ rfl; (with_reducible repeat (first | refine blk_drewN ?_ _ | refine blk_drew ?_ | refine blk_alloc ?_ _)); refine blk_put (cs := #[.int .i64 ((rd_T46 l0_13 x14_1).f0), .int .i64 ((rd_T46 l0_13 x14_1).f1), .int .i64 ((rd_T46 l0_13 x14_1).f2), .int .i64 ((rd_T46 l0_13 x14_1).f3.f0), .int .i64 ((rd_T46 l0_13 x14_1).f3.f1), .int .i64 ((rd_T46 l0_13 x14_1).f3.f2), .bool ((rd_T46 l0_13 x14_1).f3.f3.f0), .int .i64 ((rd_T46 l0_13 x14_1).f3.f3.f1), .int .i64 ((rd_T46 l0_13 x14_1).f4.f0), .int .i64 ((rd_T46 l0_13 x14_1).f4.f1), .int .i64 0, .bool false, .int .i64 0, .slice none 0 0]) ?_ 10 _ rfl; (with_reducible repeat (first | refine blk_drewN ?_ _ | refine blk_drew ?_ | refine blk_alloc ?_ _)); refine blk_put (cs := #[.int .i64 ((rd_T46 l0_13 x14_1).f0), .int .i64 ((rd_T46 l0_13 x14_1).f1), .int .i64 ((rd_T46 l0_13 x14_1).f2), .int .i64 ((rd_T46 l0_13 x14_1).f3.f0), .int .i64 ((rd_T46 l0_13 x14_1).f3.f1), .int .i64 ((rd_T46 l0_13 x14_1).f3.f2), .bool ((rd_T46 l0_13 x14_1).f3.f3.f0), .int .i64 ((rd_T46 l0_13 x14_1).f3.f3.f1), .int .i64 ((rd_T46 l0_13 x14_1).f4.f0), .int .i64 0, .int .i64 0, .bool false, .int .i64 0, .slice none 0 0]) ?_ 9 _ rfl; (with_reducible repeat (first | refine blk_drewN ?_ _ | refine blk_drew ?_ | refine blk_alloc ?_ _)); refine blk_put (cs := #[.int .i64 ((rd_T46 l0_13 x14_1).f0), .int .i64 ((rd_T46 l0_13 x14_1).f1), .int .i64 ((rd_T46 l0_13 x14_1).f2), .int .i64 ((rd_T46 l0_13 x14_1).f3.f0), .int .i64 ((rd_T46 l0_13 x14_1).f3.f1), .int .i64 ((rd_T46 l0_13 x14_1).f3.f2), .bool ((rd_T46 l0_13 x14_1).f3.f3.f0), .int .i64 ((rd_T46 l0_13 x14_1).f3.f3.f1), .int .i64 0, .int .i64 0, .int .i64 0, .bool false, .int .i64 0, .slice none 0 0]) ?_ 8 _ rfl; (with_reducible repeat (first | refine blk_drewN ?_ _ | refine blk_drew ?_ | refine blk_alloc ?_ _)); refine blk_put (cs := #[.int .i64 ((rd_T46 l0_13 x14_1).f0), .int .i64 ((rd_T46 l0_13 x14_1).f1), .int .i64 ((rd_T46 l0_13 x14_1).f2), .int .i64 ((rd_T46 l0_13 x14_1).f3.f0), .int .i64 ((rd_T46 l0_13 x14_1).f3.f1), .int .i64 ((rd_T46 l0_13 x14_1).f3.f2), .bool ((rd_T46 l0_13 x14_1).f3.f3.f0), .int .i64 0, .int .i64 0, .int .i64 0, .int .i64 0, .bool false, .int .i64 0, .slice none 0 0]) ?_ 7 _ rfl; (with_reducible repeat (first | refine blk_drewN ?_ _ | refine blk_drew ?_ | refine blk_alloc ?_ _)); refine blk_put (cs := #[.int .i64 ((rd_T46 l0_13 x14_1).f0), .int .i64 ((rd_T46 l0_13 x14_1).f1), .int .i64 ((rd_T46 l0_13 x14_1).f2), .int .i64 ((rd_T46 l0_13 x14_1).f3.f0), .int .i64 ((rd_T46 l0_13 x14_1).f3.f1), .int .i64 ((rd_T46 l0_13 x14_1).f3.f2), .bool false, .int .i64 0, .int .i64 0, .int .i64 0, .int .i64 0, .bool false, .int .i64 0, .slice none 0 0]) ?_ 6 _ rfl; (with_reducible repeat (first | refine blk_drewN ?_ _ | refine blk_drew ?_ | refine blk_alloc ?_ _)); refine blk_put (cs := #[.int .i64 ((rd_T46 l0_13 x14_1).f0), .int .i64 ((rd_T46 l0_13 x14_1).f1), .int .i64 ((rd_T46 l0_13 x14_1).f2), .int .i64 ((rd_T46 l0_13 x14_1).f3.f0), .int .i64 ((rd_T46 l0_13 x14_1).f3.f1), .int .i64 0, .bool false, .int .i64 0, .int .i64 0, .int .i64 0, .int .i64 0, .bool false, .int .i64 0, .slice none 0 0]) ?_ 5 _ rfl; (with_reducible repeat (first | refine blk_drewN ?_ _ | refine blk_drew ?_ | refine blk_alloc ?_ _)); refine blk_put (cs := #[.int .i64 ((rd_T46 l0_13 x14_1).f0), .int .i64 ((rd_T46 l0_13 x14_1).f1), .int .i64 ((rd_T46 l0_13 x14_1).f2), .int .i64 ((rd_T46 l0_13 x14_1).f3.f0), .int .i64 0, .int .i64 0, .bool false, .int .i64 0, .int .i64 0, .int .i64 0, .int .i64 0, .bool false, .int .i64 0, .slice none 0 0]) ?_ 4 _ rfl; (with_reducible repeat (first | refine blk_drewN ?_ _ | refine blk_drew ?_ | refine blk_alloc ?_ _)); refine blk_put (cs := #[.int .i64 ((rd_T46 l0_13 x14_1).f0), .int .i64 ((rd_T46 l0_13 x14_1).f1), .int .i64 ((rd_T46 l0_13 x14_1).f2), .int .i64 0, .int .i64 0, .int .i64 0, .bool false, .int .i64 0, .int .i64 0, .int .i64 0, .int .i64 0, .bool false, .int .i64 0, .slice none 0 0]) ?_ 3 _ rfl; (with_reducible repeat (first | refine blk_drewN ?_ _ | refine blk_drew ?_ | refine blk_alloc ?_ _)); refine blk_put (cs := #[.int .i64 ((rd_T46 l0_13 x14_1).f0), .int .i64 ((rd_T46 l0_13 x14_1).f1), .int .i64 0, .int .i64 0, .int .i64 0, .int .i64 0, .bool false, .int .i64 0, .int .i64 0, .int .i64 0, .int .i64 0, .bool false, .int .i64 0, .slice none 0 0]) ?_ 2 _ rfl; (with_reducible repeat (first | refine blk_drewN ?_ _ | refine blk_drew ?_ | refine blk_alloc ?_ _)); refine blk_put (cs := #[.int .i64 ((rd_T46 l0_13 x14_1).f0), .int .i64 0, .int .i64 0, .int .i64 0, .int .i64 0, .int .i64 0, .bool false, .int .i64 0, .int .i64 0, .int .i64 0, .int .i64 0, .bool false, .int .i64 0, .slice none 0 0]) ?_ 1 _ rfl; (with_reducible repeat (first | refine blk_drewN ?_ _ | refine blk_drew ?_ | refine blk_alloc ?_ _)); refine blk_put (cs := #[.int .i64 0, .int .i64 0, .int .i64 0, .int .i64 0, .int .i64 0, .int .i64 0, .bool false, .int .i64 0, .int .i64 0, .int .i64 0, .int .i64 0, .bool false, .int .i64 0, .slice none 0 0]) ?_ 0 _ rfl; (with_reducible repeat (first | refine blk_drewN ?_ _ | refine blk_drew ?_ | refine blk_alloc ?_ _)); exact BK332.out) hb); have n4_ := Aside0.mk (below_step (by repeat (first | (with_reducible first | exact HB.out | apply below_alloc | apply pw_below_drewN | apply below_drew1 | refine below_set ?_ GE327.out | refine below_set ?_ GE332.out) | exact HB.out)) hb); clear HO_5; clear BK327; clear BK332; clear HB; have HO_5 := n0_; have HO335 := n1_; have BK327 := n2_; have BK332 := n3_; have HB := n4_; clear n0_ n1_ n2_ n3_ n4_; (try clear hb); (try clear hb2); (try clear hk); (try clear hi); (try clear ho0); obtain ⟨Ao18, co18, eo18⟩ := Kd.R_slice HO335.out; subst eo18) | ((with_reducible refine gate_builtin (b := .append) (xs := #[.tmp 18, .tmp 21]) rfl ?_); at_builtin; refine Kd.R_append_rows (Kd.int .u64) (w0 := w) w.heap.size rfl (.tmp 18) (.tmp 21) 95 28 (.int .u64 0) 8 rfl Try.underlying95 info28 rfl (by decide) (by omega) u5 x5_1 t333 _ _ _ (fun k_ => some k_ ≠ (.slice Ao18 t333.length co18 : Value).ownBlock) (fun _ => False) rfl rfl ?aO ?aR (fun _ _ h => h) (fun _ h => h.elim) ?aF ?aB ?aS ?aL ?_; (case aR => repeat (first | exact (Kd.R_reads' HO335.out).2.2 | (with_reducible refine Kd.C_alloc ?_ _) | (with_reducible refine Kd.C_drewN ?_ _) | (with_reducible refine Kd.C_drew ?_))); (case aB => exact (by repeat (first | (with_reducible first | exact HB.out | apply below_alloc | apply pw_below_drewN | apply below_drew1 | refine below_set ?_ GE327.out | refine below_set ?_ GE332.out) | exact HB.out))); (case aF => exact (fun k_ hk => Kd.fresh' (Kd.R_lt (by (with_reducible repeat (first | apply Kd.R_alloc | apply Kd.R_drewN | apply Kd.R_drew)); exact HO335.out)) k_ hk)); (case aO => exact (by (with_reducible repeat (first | apply Kd.R_alloc | apply Kd.R_drewN | apply Kd.R_drew)); exact Kd.R_mono HO_5.out (fun _ hk => hk.2))); (case aS => exact (below_size (by repeat (first | (with_reducible first | exact HB.out | apply below_alloc | apply pw_below_drewN | apply below_drew1 | refine below_set ?_ GE327.out | refine below_set ?_ GE332.out) | exact HB.out)))); (case aL => have := LMc12.out; omega); intro v337 w17 ho hb hg hat; rw [← Ny336.out] at ho; have n0_ := Aside0.mk (blk_grown (g := gb327) (o := .cells #[.int .i64 a0_0, .int .i64 a0_1, .int .i64 a0_2, .int .i64 a0_3, .int .i64 a0_4, .int .i64 a0_5, .bool a0_6, .int .i64 a0_7, .int .i64 a0_8, .int .i64 a0_9, .int .i64 a0_10, .bool a0_11, .int .i64 a0_12, .slice (some ad331) l0_13.length c0_13] 46 (0, 0)) (by (with_reducible repeat (first | refine blk_drewN ?_ _ | refine blk_drew ?_ | refine blk_alloc ?_ _)); exact BK327.out) hg (Kd.R_ne HO_5.out BK327.out (by decide))); have n1_ := Aside0.mk (blk_grown (g := gb332) (o := .cells #[.int .i64 ((rd_T46 l0_13 x14_1).f0), .int .i64 ((rd_T46 l0_13 x14_1).f1), .int .i64 ((rd_T46 l0_13 x14_1).f2), .int .i64 ((rd_T46 l0_13 x14_1).f3.f0), .int .i64 ((rd_T46 l0_13 x14_1).f3.f1), .int .i64 ((rd_T46 l0_13 x14_1).f3.f2), .bool ((rd_T46 l0_13 x14_1).f3.f3.f0), .int .i64 ((rd_T46 l0_13 x14_1).f3.f3.f1), .int .i64 ((rd_T46 l0_13 x14_1).f4.f0), .int .i64 ((rd_T46 l0_13 x14_1).f4.f1), .int .i64 ((rd_T46 l0_13 x14_1).f4.f2), .bool ((rd_T46 l0_13 x14_1).f4.f3.f0), .int .i64 ((rd_T46 l0_13 x14_1).f4.f3.f1), .slice A331_13 ((rd_T46 l0_13 x14_1).f5).length c331_13] 46 (0, 0)) (by (with_reducible repeat (first | refine blk_drewN ?_ _ | refine blk_drew ?_ | refine blk_alloc ?_ _)); exact BK332.out) hg (Kd.R_ne HO_5.out BK332.out (by decide))); have n2_ := Aside0.mk (Kd.R_after (ok := (fun _ => True)) (by (with_reducible repeat (first | apply Kd.R_alloc | apply Kd.R_drewN | apply Kd.R_drew)); exact HO335.out) hg hat); have n3_ := Aside0.mk (hb); have n4_ := Aside0.mk (ho); clear BK327; clear BK332; clear HO335; clear HB; clear HO_5; have BK327 := n0_; have BK332 := n1_; have HO335 := n2_; have HB := n3_; have HO338 := n4_; clear n0_ n1_ n2_ n3_ n4_; clear ho hb hg hat))
       go_roundg k1
       case measure => have := HK1.out; omega
       case rel => exact ⟨(y336), (wrap64 (x14_1 + 1)), (by first | rfl | (simp; done) | (simp [*]; done) | (simp; decide)), H', ⟨by have := HK1.out; omega⟩, ⟨by (with_reducible repeat (first | apply Kd.R_alloc | apply Kd.R_drewN | apply Kd.R_drew)); exact Kd.R_mono HO338.out (fun _ hk => trivial)⟩, ⟨by (with_reducible repeat (first | refine blk_drewN ?_ _ | refine blk_drew ?_ | refine blk_alloc ?_ _)); exact BK327.out⟩, ⟨by repeat (first | (with_reducible first | exact HB.out | apply below_alloc | apply pw_below_drewN | apply below_drew1 | refine below_set ?_ GE327.out | refine below_set ?_ GE332.out) | exact HB.out)⟩⟩
      ·rw [if_neg c12] at H
       exact absurd H (by simp)
     ·rw [if_neg c10] at H
      exact absurd H (by simp)
    ·rw [if_neg c9] at H
     exact absurd H (by simp)
   ·rw [if_neg c8] at H
    have c8b0 : decide (x14_1 < (l0_13.length : Int)) = false := decide_eq_false c8
    clear c8
    obtain rfl := Option.some.inj H
    go_wp2
    go_ret
    exact ⟨_, by first | rfl | (simp [errW_none, errW_some] <;> rfl) | (simp [*, errW_none, errW_some] <;> rfl), by (with_reducible repeat (first | apply Kd.R_alloc | apply Kd.R_drewN | apply Kd.R_drew)); exact HO_5.out, by repeat (first | (with_reducible first | exact HB.out | apply below_alloc | apply pw_below_drewN | apply below_drew1 | refine below_set ?_ GE327.out) | exact HB.out)⟩

/-! ### pred_Tables: function 42 -/
def pred_Tables.l0 : Nat → Int → List Int → Int → Int → Option (Int)
 | 0, _, _, _, _ => none
 | k + 1, x3, x7, x8, x9 => if x9 < x8 then (if 0 ≤ x9 then (if x9 < (x7.length : Int) then (pred_Tables.l0 k (Go.bits .or .u64 x3 (rd x7 x9)) x7 x8 (wrap64 (x9 + 1))) else (none)) else (none)) else (some x3)
def pred_Tables.f (k : Nat) (a0_0 : Int) (a0_1 : Int) (a0_2 : Int) (a0_3 : Int) (a0_4 : Int) (a0_5 : Int) (a0_6 : Bool) (a0_7 : Int) (a0_8 : Int) (a0_9 : Int) (a0_10 : Int) (a0_11 : Bool) (a0_12 : Int) (l0_13 : List (S46)) : Option (Int) := (pred_gather_uint64_at_pred_Tables_1.f k a0_0 a0_1 a0_2 a0_3 a0_4 a0_5 a0_6 a0_7 a0_8 a0_9 a0_10 a0_11 a0_12 l0_13).bind fun t340 => (pred_Tables.l0 k 0 t340 (t340.length : Int) 0)
theorem pred_Tables.mono_l : ∀ k, (∀ y0 y1 y2 y3, LeO (pred_Tables.l0 k y0 y1 y2 y3) (pred_Tables.l0 (k + 1) y0 y1 y2 y3))
 | 0 => fun _ _ _ _ r h => by simp [pred_Tables.l0] at h
 | k + 1 => by
  have ih0 := pred_Tables.mono_l k
  ·intro y0 y1 y2 y3
   unfold pred_Tables.l0
   repeat' first
   | (with_reducible exact ih0 _ _ _ _)
   | (with_reducible exact pred_gather_uint64_at_pred_Tables_1.mono _ _ _ _ _ _ _ _ _ _ _ _ _ _ _)
   | (with_reducible exact LeO.refl _)
   | (with_reducible exact LeO.none _)
   | (with_reducible refine LeO.ite ?_ ?_)
   | (with_reducible refine LeO.bind ?_ (fun _ => ?_))
   | exact ih0 _ _ _ _
   | exact pred_gather_uint64_at_pred_Tables_1.mono _ _ _ _ _ _ _ _ _ _ _ _ _ _ _
   | exact LeO.none _
   | refine LeO.ite ?_ ?_
   | refine LeO.bind ?_ (fun _ => ?_)
theorem pred_Tables.mono : ∀ a0 a1 a2 a3 a4 a5 a6 a7 a8 a9 a10 a11 a12 a13 k, LeO (pred_Tables.f k a0 a1 a2 a3 a4 a5 a6 a7 a8 a9 a10 a11 a12 a13) (pred_Tables.f (k + 1) a0 a1 a2 a3 a4 a5 a6 a7 a8 a9 a10 a11 a12 a13) := by
 intro a0 a1 a2 a3 a4 a5 a6 a7 a8 a9 a10 a11 a12 a13 k
 have ih0 := pred_Tables.mono_l k
 unfold pred_Tables.f
 repeat' first
   | (with_reducible exact ih0 _ _ _ _)
   | (with_reducible exact pred_gather_uint64_at_pred_Tables_1.mono _ _ _ _ _ _ _ _ _ _ _ _ _ _ _)
   | (with_reducible exact LeO.refl _)
   | (with_reducible exact LeO.none _)
   | (with_reducible refine LeO.ite ?_ ?_)
   | (with_reducible refine LeO.bind ?_ (fun _ => ?_))
   | exact ih0 _ _ _ _
   | exact pred_gather_uint64_at_pred_Tables_1.mono _ _ _ _ _ _ _ _ _ _ _ _ _ _ _
   | exact LeO.none _
   | refine LeO.ite ?_ ?_
   | refine LeO.bind ?_ (fun _ => ?_)
set_option maxHeartbeats 8000000 in
set_option maxRecDepth 100000 in
theorem pred_Tables.calls (k : Nat) (a0_0 : Int) (a0_1 : Int) (a0_2 : Int) (a0_3 : Int) (a0_4 : Int) (a0_5 : Int) (a0_6 : Bool) (a0_7 : Int) (a0_8 : Int) (a0_9 : Int) (a0_10 : Int) (a0_11 : Bool) (a0_12 : Int) (A0_13 : Option Addr) (c0_13 : Nat) (l0_13 : List (S46)) (r : Int) (w : World) (hr0_13 : Kd.C k46 w A0_13 l0_13.length l0_13) (hc0_13 : l0_13.length ≤ c0_13) (h : pred_Tables.f k a0_0 a0_1 a0_2 a0_3 a0_4 a0_5 a0_6 a0_7 a0_8 a0_9 a0_10 a0_11 a0_12 l0_13 = some r) :
  Calls Try.prog 42 #[.agg #[.int .i64 a0_0, .int .i64 a0_1, .int .i64 a0_2, .int .i64 a0_3, .int .i64 a0_4, .int .i64 a0_5, .bool a0_6, .int .i64 a0_7, .int .i64 a0_8, .int .i64 a0_9, .int .i64 a0_10, .bool a0_11, .int .i64 a0_12, .slice A0_13 l0_13.length c0_13]] w fun e w' => e = .returned (.int .u64 r) ∧ Below w.heap.size w w' := by
 have hu46 := Try.underlying46
 have HR0_13 := Aside0.mk hr0_13
 have HC0_13 := Aside0.mk hc0_13
 clear hr0_13 hc0_13
 have HB := Aside0.mk (Below.refl w.heap.size w)
 have H : ((pred_gather_uint64_at_pred_Tables_1.f k a0_0 a0_1 a0_2 a0_3 a0_4 a0_5 a0_6 a0_7 a0_8 a0_9 a0_10 a0_11 a0_12 l0_13).bind fun t340 => (pred_Tables.l0 k 0 t340 (t340.length : Int) 0)) = some r := h
 clear h
 replace H := Option.bind_eq_some_iff.mp H
 obtain ⟨t340, A20, H⟩ := H
 replace H : (pred_Tables.l0 k 0 t340 (t340.length : Int) 0) = some r := H
 have A2 := Aside0.mk A20
 clear A20
 have H' := Aside0.mk H
 clear H
 go_enter Try.func42, Try.ntmps42
 go_wp2_with (first | ((with_reducible refine gate_dst (N := 1) rfl ?_); refine box_event ?hg (N := 1) ?hd (cs := #[.int .i64 a0_0, .int .i64 a0_1, .int .i64 a0_2, .int .i64 a0_3, .int .i64 a0_4, .int .i64 a0_5, .bool a0_6, .int .i64 a0_7, .int .i64 a0_8, .int .i64 a0_9, .int .i64 a0_10, .bool a0_11, .int .i64 a0_12, .slice A0_13 l0_13.length c0_13]) (t := 46) ?hr ?_; (case hd => rfl); (case hg => rfl); (case hr => first | (go_simp; done) | (go_simp; rfl)); intro gb339 hg w3 hbox hb; have n0_ := Aside0.mk (below_step (by repeat (first | (with_reducible first | exact HB.out | apply below_alloc | apply pw_below_drewN | apply below_drew1) | exact HB.out)) hb); have n1_ := Aside0.mk (hbox); have n2_ := Aside0.mk ((by rw [hg]; exact (below_size (by repeat (first | (with_reducible first | exact HB.out | apply below_alloc | apply pw_below_drewN | apply below_drew1) | exact HB.out))) : w.heap.size ≤ gb339)); have n3_ := n2_; clear HB; have HB := n0_; have BK339 := n1_; have GW339 := n2_; have GE339 := n3_; clear n0_ n1_ n2_ n3_; clear hb hbox hg; have hcz4 := blk_cell BK339.out; have hfz4 := blk_frozen BK339.out; have hfz4_13 := blk_frozen BK339.out 13) | ((with_reducible refine gate_callee (f := 77) rfl ?_); refine goesL_ (some 7) rfl rfl Try.func77 (by kernel_rfl) rfl #[.agg #[.int .i64 a0_0, .int .i64 a0_1, .int .i64 a0_2, .int .i64 a0_3, .int .i64 a0_4, .int .i64 a0_5, .bool a0_6, .int .i64 a0_7, .int .i64 a0_8, .int .i64 a0_9, .int .i64 a0_10, .bool a0_11, .int .i64 a0_12, .slice A0_13 l0_13.length c0_13], .func (.func 78) #[] #[]] rfl (by (try simp only [List.map_toArray, List.map_cons, List.map_nil]); first | done | rfl | (simp only [List.length_drop, List.length_take]; rfl)) ?_; (with_reducible refine (pred_gather_uint64_at_pred_Tables_1.calls k a0_0 a0_1 a0_2 a0_3 a0_4 a0_5 a0_6 a0_7 a0_8 a0_9 a0_10 a0_11 a0_12 _ _ l0_13  t340 _ ?side1 ?side2 A2.out).mono ?_); (case side1 => repeat (first | exact (Kd.C_below HR0_13.out HB.out) | (with_reducible refine Kd.C_alloc ?_ _) | (with_reducible refine Kd.C_drewN ?_ _) | (with_reducible refine Kd.C_drew ?_))); (case side2 => exact HC0_13.out); rintro e w5 ⟨v341, rfl, ho0, hb⟩; refine ⟨_, rfl, ?_⟩; have n0_ := Aside0.mk (Kd.R_lower ho0 (below_size (by repeat (first | (with_reducible first | exact HB.out | apply below_alloc | apply pw_below_drewN | apply below_drew1 | refine below_set ?_ GE339.out) | exact HB.out)))); have n1_ := Aside0.mk (blk_below (by (with_reducible repeat (first | refine blk_drewN ?_ _ | refine blk_drew ?_ | refine blk_alloc ?_ _)); exact BK339.out) hb); have n2_ := Aside0.mk (below_step (by repeat (first | (with_reducible first | exact HB.out | apply below_alloc | apply pw_below_drewN | apply below_drew1 | refine below_set ?_ GE339.out) | exact HB.out)) hb); clear BK339; clear HB; have HO342 := n0_; have BK339 := n1_; have HB := n2_; clear n0_ n1_ n2_; (try clear hb); (try clear hb2); (try clear hk); (try clear hi); (try clear ho0); obtain ⟨Ao6, co6, eo6⟩ := Kd.R_slice HO342.out; subst eo6))
 go_loopg [3, 9] k (fun kq v3 v9 w' => ∃ (x3_1 : Int) (x9_1 : Int), v3 = .int .u64 x3_1 ∧ v9 = .int .i64 x9_1 ∧ Aside0 (pred_Tables.l0 kq x3_1 t340 (t340.length : Int) x9_1 = some r) ∧ Aside0 (kq ≤ k) ∧ Aside0 (Kd.R (Kd.int .u64) 28 w' w.heap.size (fun _ => True) (.slice Ao6 t340.length co6) t340) ∧ Aside0 (w'.heap[gb339]? = some (.cells #[.int .i64 a0_0, .int .i64 a0_1, .int .i64 a0_2, .int .i64 a0_3, .int .i64 a0_4, .int .i64 a0_5, .bool a0_6, .int .i64 a0_7, .int .i64 a0_8, .int .i64 a0_9, .int .i64 a0_10, .bool a0_11, .int .i64 a0_12, (.slice A0_13 l0_13.length c0_13)] 46 (0, 0))) ∧ Aside0 (Below w.heap.size w w'))
 case atStart => exact ⟨(0), (0), (by first | rfl | (simp; done) | (simp [*]; done) | (simp; decide)), (by first | rfl | (simp; done) | (simp [*]; done) | (simp; decide)), H', ⟨Nat.le_refl _⟩, ⟨by (with_reducible repeat (first | apply Kd.R_alloc | apply Kd.R_drewN | apply Kd.R_drew)); exact HO342.out⟩, ⟨by (with_reducible repeat (first | refine blk_drewN ?_ _ | refine blk_drew ?_ | refine blk_alloc ?_ _)); exact BK339.out⟩, ⟨by repeat (first | (with_reducible first | exact HB.out | apply below_alloc | apply pw_below_drewN | apply below_drew1 | refine below_set ?_ GE339.out) | exact HB.out)⟩⟩
 case round =>
  clear H'
  try clear c1
  try clear p2
  try clear c4
  try clear hcz4
  try clear hfz4
  try clear hfz4_13
  try clear hfz4
  obtain ⟨x3_1, x9_1, rfl, rfl, HA, HK1, HO_7, BK339, HB⟩ := hrel
  cases gk with
  | zero => exact absurd HA.out (by simp [pred_Tables.l0])
  | succ k1 =>
   have H := HA.out
   clear HA
   simp only [pred_Tables.l0] at H
   by_cases c7 : x9_1 < (t340.length : Int)
   ·rw [if_pos c7] at H
    have c7b0 : decide (x9_1 < (t340.length : Int)) = true := decide_eq_true c7
    clear c7
    by_cases c8 : 0 ≤ x9_1
    ·rw [if_pos c8] at H
     have c8b0 : decide (0 ≤ x9_1) = true := decide_eq_true c8
     clear c8
     by_cases c9 : x9_1 < (t340.length : Int)
     ·rw [if_pos c9] at H
      have c9b0 : decide (x9_1 < (t340.length : Int)) = true := decide_eq_true c9
      clear c9
      have H' := Aside0.mk H
      clear H
      have p343 : 0 ≤ (x9_1 : Int) := of_decide_eq_true (by first | (with_reducible assumption) | assumption)
      have q343 : x9_1 < (t340.length : Int) := of_decide_eq_true (by first | (with_reducible assumption) | assumption)
      obtain ⟨ad343, e343, hx343_0⟩ := Kd.at_int (Kd.R_reads' HO_7.out).2.2 x9_1 p343 q343
      cases e343
      replace p343 := eq_true p343
      replace q343 := eq_true q343
      go_wp2
      go_roundg k1
      case measure => have := HK1.out; omega
      case rel => exact ⟨(Go.bits .or .u64 x3_1 (rd t340 x9_1)), (wrap64 (x9_1 + 1)), (by first | rfl | (simp; done) | (simp [*]; done) | (simp; decide)), (by first | rfl | (simp; done) | (simp [*]; done) | (simp; decide)), H', ⟨by have := HK1.out; omega⟩, ⟨by (with_reducible repeat (first | apply Kd.R_alloc | apply Kd.R_drewN | apply Kd.R_drew)); exact HO_7.out⟩, ⟨by (with_reducible repeat (first | refine blk_drewN ?_ _ | refine blk_drew ?_ | refine blk_alloc ?_ _)); exact BK339.out⟩, ⟨by repeat (first | (with_reducible first | exact HB.out | apply below_alloc | apply pw_below_drewN | apply below_drew1 | refine below_set ?_ GE339.out) | exact HB.out)⟩⟩
     ·rw [if_neg c9] at H
      exact absurd H (by simp)
    ·rw [if_neg c8] at H
     exact absurd H (by simp)
   ·rw [if_neg c7] at H
    have c7b0 : decide (x9_1 < (t340.length : Int)) = false := decide_eq_false c7
    clear c7
    obtain rfl := Option.some.inj H
    go_wp2
    go_ret
    exact ⟨by first | rfl | (simp [errW_none, errW_some] <;> rfl) | (simp [*, errW_none, errW_some] <;> rfl), by repeat (first | (with_reducible first | exact HB.out | apply below_alloc | apply pw_below_drewN | apply below_drew1 | refine below_set ?_ GE339.out) | exact HB.out)⟩

/-! ### watersmeetlaw06_Equal: function 55 -/
def watersmeetlaw06_Equal.f (a0 : Int) (a1 : Int) : Option (Int × Int × Int × Int × Int × Int × Bool × Int × Int × Int × Int × Bool × Int × (List (S46))) := some (2, 0, 1, 1, a0, 0, false, 0, 1, a1, 0, false, 0, ([] : List (S46)))
set_option maxHeartbeats 8000000 in
set_option maxRecDepth 100000 in
theorem watersmeetlaw06_Equal.calls (a0 : Int) (a1 : Int) (r1 : Int) (r2 : Int) (r3 : Int) (r4 : Int) (r5 : Int) (r6 : Int) (r7 : Bool) (r8 : Int) (r9 : Int) (r10 : Int) (r11 : Int) (r12 : Bool) (r13 : Int) (r14 : List (S46)) (w : World) (h : watersmeetlaw06_Equal.f a0 a1 = some (r1, r2, r3, r4, r5, r6, r7, r8, r9, r10, r11, r12, r13, r14)) :
  Calls Try.prog 55 #[.int .i64 a0, .int .i64 a1] w fun e w' => e = .returned (.agg #[.int .i64 r1, .int .i64 r2, .int .i64 r3, .int .i64 r4, .int .i64 r5, .int .i64 r6, .bool r7, .int .i64 r8, .int .i64 r9, .int .i64 r10, .int .i64 r11, .bool r12, .int .i64 r13, .slice none 0 0]) ∧ Below w.heap.size w w' := by
 have hu46 := Try.underlying46
 have hu44 := Try.underlying44
 have HB := Aside0.mk (Below.refl w.heap.size w)
 have H : (some (2, 0, 1, 1, a0, 0, false, 0, 1, a1, 0, false, 0, ([] : List (S46)))) = some (r1, r2, r3, r4, r5, r6, r7, r8, r9, r10, r11, r12, r13, r14) := h
 clear h
 simp only [Option.some.injEq, Prod.mk.injEq] at H
 obtain ⟨rfl, rfl, rfl, rfl, rfl, rfl, rfl, rfl, rfl, rfl, rfl, rfl, rfl, rfl⟩ := H
 go_enter Try.func55, Try.ntmps55
 go_wp2_with (first | ((with_reducible refine gate_dst (N := 4) rfl ?_); refine box_event ?hg (N := 4) ?hd (cs := #[.int .i64 0, .int .i64 0, .int .i64 0, .int .i64 0, .int .i64 0, .int .i64 0, .bool false, .int .i64 0, .int .i64 0, .int .i64 0, .int .i64 0, .bool false, .int .i64 0, .slice none 0 0]) (t := 46) ?hr ?_; (case hd => rfl); (case hg => rfl); (case hr => first | (go_simp; done) | (go_simp; rfl)); intro gb344 hg w3 hbox hb; have n0_ := Aside0.mk (below_step (by repeat (first | (with_reducible first | exact HB.out | apply below_alloc | apply pw_below_drewN | apply below_drew1) | exact HB.out)) hb); have n1_ := Aside0.mk (hbox); have n2_ := Aside0.mk ((by rw [hg]; exact (below_size (by repeat (first | (with_reducible first | exact HB.out | apply below_alloc | apply pw_below_drewN | apply below_drew1) | exact HB.out))) : w.heap.size ≤ gb344)); have n3_ := n2_; clear HB; have HB := n0_; have BK344 := n1_; have GW344 := n2_; have GE344 := n3_; clear n0_ n1_ n2_ n3_; clear hb hbox hg; have hcz4 := blk_cell BK344.out; have hfz4 := blk_frozen BK344.out; have hfz4_13 := blk_frozen BK344.out 13))
 refine bodyPost_ret (results_cell_row rfl _ _ gb344 46 #[.int .i64 2, .int .i64 0, .int .i64 1, .int .i64 1, .int .i64 a0, .int .i64 0, .bool false, .int .i64 0, .int .i64 1, .int .i64 a1, .int .i64 0, .bool false, .int .i64 0, .slice none 0 0] (0, 0) _ rfl (by (with_reducible repeat (first | refine blk_drewN ?_ _ | refine blk_drew ?_ | refine blk_alloc ?_ _)); refine blk_put (cs := #[.int .i64 2, .int .i64 0, .int .i64 1, .int .i64 1, .int .i64 a0, .int .i64 0, .bool false, .int .i64 0, .int .i64 1, .int .i64 a1, .int .i64 0, .bool false, .int .i64 0, .slice none 0 0]) ?_ 13 _ rfl; (with_reducible repeat (first | refine blk_drewN ?_ _ | refine blk_drew ?_ | refine blk_alloc ?_ _)); refine blk_put (cs := #[.int .i64 2, .int .i64 0, .int .i64 1, .int .i64 1, .int .i64 a0, .int .i64 0, .bool false, .int .i64 0, .int .i64 1, .int .i64 a1, .int .i64 0, .bool false, .int .i64 0, .slice none 0 0]) ?_ 12 _ rfl; (with_reducible repeat (first | refine blk_drewN ?_ _ | refine blk_drew ?_ | refine blk_alloc ?_ _)); refine blk_put (cs := #[.int .i64 2, .int .i64 0, .int .i64 1, .int .i64 1, .int .i64 a0, .int .i64 0, .bool false, .int .i64 0, .int .i64 1, .int .i64 a1, .int .i64 0, .bool false, .int .i64 0, .slice none 0 0]) ?_ 11 _ rfl; (with_reducible repeat (first | refine blk_drewN ?_ _ | refine blk_drew ?_ | refine blk_alloc ?_ _)); refine blk_put (cs := #[.int .i64 2, .int .i64 0, .int .i64 1, .int .i64 1, .int .i64 a0, .int .i64 0, .bool false, .int .i64 0, .int .i64 1, .int .i64 a1, .int .i64 0, .bool false, .int .i64 0, .slice none 0 0]) ?_ 10 _ rfl; (with_reducible repeat (first | refine blk_drewN ?_ _ | refine blk_drew ?_ | refine blk_alloc ?_ _)); refine blk_put (cs := #[.int .i64 2, .int .i64 0, .int .i64 1, .int .i64 1, .int .i64 a0, .int .i64 0, .bool false, .int .i64 0, .int .i64 1, .int .i64 0, .int .i64 0, .bool false, .int .i64 0, .slice none 0 0]) ?_ 9 _ rfl; (with_reducible repeat (first | refine blk_drewN ?_ _ | refine blk_drew ?_ | refine blk_alloc ?_ _)); refine blk_put (cs := #[.int .i64 2, .int .i64 0, .int .i64 1, .int .i64 1, .int .i64 a0, .int .i64 0, .bool false, .int .i64 0, .int .i64 0, .int .i64 0, .int .i64 0, .bool false, .int .i64 0, .slice none 0 0]) ?_ 8 _ rfl; (with_reducible repeat (first | refine blk_drewN ?_ _ | refine blk_drew ?_ | refine blk_alloc ?_ _)); refine blk_put (cs := #[.int .i64 2, .int .i64 0, .int .i64 1, .int .i64 1, .int .i64 a0, .int .i64 0, .bool false, .int .i64 0, .int .i64 0, .int .i64 0, .int .i64 0, .bool false, .int .i64 0, .slice none 0 0]) ?_ 7 _ rfl; (with_reducible repeat (first | refine blk_drewN ?_ _ | refine blk_drew ?_ | refine blk_alloc ?_ _)); refine blk_put (cs := #[.int .i64 2, .int .i64 0, .int .i64 1, .int .i64 1, .int .i64 a0, .int .i64 0, .bool false, .int .i64 0, .int .i64 0, .int .i64 0, .int .i64 0, .bool false, .int .i64 0, .slice none 0 0]) ?_ 6 _ rfl; (with_reducible repeat (first | refine blk_drewN ?_ _ | refine blk_drew ?_ | refine blk_alloc ?_ _)); refine blk_put (cs := #[.int .i64 2, .int .i64 0, .int .i64 1, .int .i64 1, .int .i64 a0, .int .i64 0, .bool false, .int .i64 0, .int .i64 0, .int .i64 0, .int .i64 0, .bool false, .int .i64 0, .slice none 0 0]) ?_ 5 _ rfl; (with_reducible repeat (first | refine blk_drewN ?_ _ | refine blk_drew ?_ | refine blk_alloc ?_ _)); refine blk_put (cs := #[.int .i64 2, .int .i64 0, .int .i64 1, .int .i64 1, .int .i64 0, .int .i64 0, .bool false, .int .i64 0, .int .i64 0, .int .i64 0, .int .i64 0, .bool false, .int .i64 0, .slice none 0 0]) ?_ 4 _ rfl; (with_reducible repeat (first | refine blk_drewN ?_ _ | refine blk_drew ?_ | refine blk_alloc ?_ _)); refine blk_put (cs := #[.int .i64 2, .int .i64 0, .int .i64 1, .int .i64 0, .int .i64 0, .int .i64 0, .bool false, .int .i64 0, .int .i64 0, .int .i64 0, .int .i64 0, .bool false, .int .i64 0, .slice none 0 0]) ?_ 3 _ rfl; (with_reducible repeat (first | refine blk_drewN ?_ _ | refine blk_drew ?_ | refine blk_alloc ?_ _)); refine blk_put (cs := #[.int .i64 2, .int .i64 0, .int .i64 0, .int .i64 0, .int .i64 0, .int .i64 0, .bool false, .int .i64 0, .int .i64 0, .int .i64 0, .int .i64 0, .bool false, .int .i64 0, .slice none 0 0]) ?_ 2 _ rfl; (with_reducible repeat (first | refine blk_drewN ?_ _ | refine blk_drew ?_ | refine blk_alloc ?_ _)); refine blk_put (cs := #[.int .i64 2, .int .i64 0, .int .i64 0, .int .i64 0, .int .i64 0, .int .i64 0, .bool false, .int .i64 0, .int .i64 0, .int .i64 0, .int .i64 0, .bool false, .int .i64 0, .slice none 0 0]) ?_ 1 _ rfl; (with_reducible repeat (first | refine blk_drewN ?_ _ | refine blk_drew ?_ | refine blk_alloc ?_ _)); refine blk_put (cs := #[.int .i64 0, .int .i64 0, .int .i64 0, .int .i64 0, .int .i64 0, .int .i64 0, .bool false, .int .i64 0, .int .i64 0, .int .i64 0, .int .i64 0, .bool false, .int .i64 0, .slice none 0 0]) ?_ 0 _ rfl; (with_reducible repeat (first | refine blk_drewN ?_ _ | refine blk_drew ?_ | refine blk_alloc ?_ _)); exact BK344.out) Try.underlying46 rfl (by kernel_rfl)) rfl ?_
 exact ⟨by first | rfl | (simp [errW_none, errW_some] <;> rfl) | (simp [*, errW_none, errW_some] <;> rfl), by repeat (first | (with_reducible first | exact HB.out | apply below_alloc | apply pw_below_drewN | apply below_drew1 | refine below_set ?_ GE344.out) | exact HB.out)⟩

end Go.Proofs.Ytigkkfhpnfjmhaa.PPredU
