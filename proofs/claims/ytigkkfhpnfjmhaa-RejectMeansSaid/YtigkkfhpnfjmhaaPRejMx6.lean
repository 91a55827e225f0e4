/- Laid by a program of this session over the printer of the kit: contracts of functions of the given program, and rows of laws. Lean checks it. -/
import Derived.Test.YtigkkfhpnfjmhaaPRejMx0
import Derived.Test.YtigkkfhpnfjmhaaPRejMx2
import Derived.Test.YtigkkfhpnfjmhaaPRejMx3
import Derived.Test.YtigkkfhpnfjmhaaPRejMx5
namespace Go.Proofs.Ytigkkfhpnfjmhaa.PRejM
open Go.RowKit Go.Proofs.YtigkkfhpnfjmhaaW.PrintWords Go.Proofs.YtigkkfhpnfjmhaaW.PrintLast Go.Proofs.YtigkkfhpnfjmhaaW.PrintMore
attribute [local go_sem] max2_int min2_int max_two min_two max_three min_three max_four min_four   -- for this text's walks alone
set_option linter.unusedVariables false
set_option linter.unusedSimpArgs false

/-! ### pred_Of_1: function 67 -/
mutual
def pred_Of_1.l0 : Nat → List Int → List (S46) → Int → Int → List (List (S42)) → Option (List Int)
 | 0, _, _, _, _, _ => none
 | k + 1, x3, x7, x8, x9, x2000 => if x9 < x8 then (if 0 ≤ x9 then (if x9 < (x7.length : Int) then ((pred_Of.f k ((rd_T46 x7 x9).f0) ((rd_T46 x7 x9).f1) ((rd_T46 x7 x9).f2) ((rd_T46 x7 x9).f3.f0) ((rd_T46 x7 x9).f3.f1) ((rd_T46 x7 x9).f3.f2) ((rd_T46 x7 x9).f3.f3.f0) ((rd_T46 x7 x9).f3.f3.f1) ((rd_T46 x7 x9).f4.f0) ((rd_T46 x7 x9).f4.f1) ((rd_T46 x7 x9).f4.f2) ((rd_T46 x7 x9).f4.f3.f0) ((rd_T46 x7 x9).f4.f3.f1) ((rd_T46 x7 x9).f5) x2000).bind fun t405 => (if x3.length < 17592186044416 then (pred_Of_1.l0 k (x3 ++ [t405]) x7 x8 (wrap64 (x9 + 1)) x2000) else (none))) else (none)) else (none)) else (some x3)
def pred_Of_1.f : Nat → Int → Int → Int → Int → Int → Int → Bool → Int → Int → Int → Int → Bool → Int → List (S46) → List (List (S42)) → Option (List Int)
 | 0, _, _, _, _, _, _, _, _, _, _, _, _, _, _, _ => none
 | k + 1, a0_0, a0_1, a0_2, a0_3, a0_4, a0_5, a0_6, a0_7, a0_8, a0_9, a0_10, a0_11, a0_12, l0_13, l1_0 => pred_Of_1.l0 k ([] : List Int) l0_13 (l0_13.length : Int) 0 l1_0
def pred_Of.f : Nat → Int → Int → Int → Int → Int → Int → Bool → Int → Int → Int → Int → Bool → Int → List (S46) → List (List (S42)) → Option (Int)
 | 0, _, _, _, _, _, _, _, _, _, _, _, _, _, _, _ => none
 | k + 1, a0_0, a0_1, a0_2, a0_3, a0_4, a0_5, a0_6, a0_7, a0_8, a0_9, a0_10, a0_11, a0_12, l0_13, l1 => if a0_0 = 1 then ((logic_And.f k (([a0_1] : List Int))).bind fun t414 => (some t414)) else (if a0_0 = 2 then ((term_Of.f a0_3 a0_4 a0_5 a0_6 a0_7 l1).bind fun bt415 => ((term_Of.f a0_8 a0_9 a0_10 a0_11 a0_12 l1).bind fun bt417 => ((value_Compare.f a0_2 bt415.1 bt415.2 bt417.1 bt417.2).bind fun t419 => (some t419)))) else (if a0_0 = 3 then ((term_Of.f a0_3 a0_4 a0_5 a0_6 a0_7 l1).bind fun bt420 => ((logic_Of.f bt420.1).bind fun t422 => (some t422))) else (if a0_0 = 4 then ((pred_Of_1.f k a0_0 a0_1 a0_2 a0_3 a0_4 a0_5 a0_6 a0_7 a0_8 a0_9 a0_10 a0_11 a0_12 l0_13 l1).bind fun t423 => ((logic_And.f k t423).bind fun t426 => (some t426))) else (if a0_0 = 5 then ((pred_Of_1.f k a0_0 a0_1 a0_2 a0_3 a0_4 a0_5 a0_6 a0_7 a0_8 a0_9 a0_10 a0_11 a0_12 l0_13 l1).bind fun t427 => ((logic_Or.f k t427).bind fun t430 => (some t430))) else (if a0_0 = 6 then (if (l0_13.length : Int) > 0 then (if 0 < (l0_13.length : Int) then ((pred_Of.f k ((rd_T46 l0_13 0).f0) ((rd_T46 l0_13 0).f1) ((rd_T46 l0_13 0).f2) ((rd_T46 l0_13 0).f3.f0) ((rd_T46 l0_13 0).f3.f1) ((rd_T46 l0_13 0).f3.f2) ((rd_T46 l0_13 0).f3.f3.f0) ((rd_T46 l0_13 0).f3.f3.f1) ((rd_T46 l0_13 0).f4.f0) ((rd_T46 l0_13 0).f4.f1) ((rd_T46 l0_13 0).f4.f2) ((rd_T46 l0_13 0).f4.f3.f0) ((rd_T46 l0_13 0).f4.f3.f1) ((rd_T46 l0_13 0).f5) l1).bind fun t432 => ((logic_Not.f t432).bind fun t433 => (some t433))) else (none)) else (some 1)) else (some 1))))))
end
theorem pred_Of_1.mono_g : ∀ k, (∀ y0 y1 y2 y3 y4 y5 y6 y7 y8 y9 y10 y11 y12 y13 y14, LeO (pred_Of_1.f k y0 y1 y2 y3 y4 y5 y6 y7 y8 y9 y10 y11 y12 y13 y14) (pred_Of_1.f (k + 1) y0 y1 y2 y3 y4 y5 y6 y7 y8 y9 y10 y11 y12 y13 y14)) ∧ (∀ y0 y1 y2 y3 y4, LeO (pred_Of_1.l0 k y0 y1 y2 y3 y4) (pred_Of_1.l0 (k + 1) y0 y1 y2 y3 y4)) ∧ (∀ y0 y1 y2 y3 y4 y5 y6 y7 y8 y9 y10 y11 y12 y13 y14, LeO (pred_Of.f k y0 y1 y2 y3 y4 y5 y6 y7 y8 y9 y10 y11 y12 y13 y14) (pred_Of.f (k + 1) y0 y1 y2 y3 y4 y5 y6 y7 y8 y9 y10 y11 y12 y13 y14))
 | 0 => ⟨fun _ _ _ _ _ _ _ _ _ _ _ _ _ _ _ r h => by simp [pred_Of_1.f] at h, fun _ _ _ _ _ r h => by simp [pred_Of_1.l0] at h, fun _ _ _ _ _ _ _ _ _ _ _ _ _ _ _ r h => by simp [pred_Of.f] at h⟩
 | k + 1 => by
  obtain ⟨ih0, ih1, ih2⟩ := pred_Of_1.mono_g k
  refine ⟨?_, ?_, ?_⟩
  ·intro y0 y1 y2 y3 y4 y5 y6 y7 y8 y9 y10 y11 y12 y13 y14
   unfold pred_Of_1.f
   repeat' first
   | (with_reducible exact ih0 _ _ _ _ _ _ _ _ _ _ _ _ _ _ _)
   | (with_reducible exact ih1 _ _ _ _ _)
   | (with_reducible exact ih2 _ _ _ _ _ _ _ _ _ _ _ _ _ _ _)
   | (with_reducible exact logic_And.mono _ _)
   | (with_reducible exact logic_Or.mono _ _)
   | (with_reducible exact LeO.refl _)
   | (with_reducible exact LeO.none _)
   | (with_reducible refine LeO.ite ?_ ?_)
   | (with_reducible refine LeO.bind ?_ (fun _ => ?_))
   | exact ih0 _ _ _ _ _ _ _ _ _ _ _ _ _ _ _
   | exact ih1 _ _ _ _ _
   | exact ih2 _ _ _ _ _ _ _ _ _ _ _ _ _ _ _
   | exact logic_And.mono _ _
   | exact logic_Or.mono _ _
   | exact LeO.none _
   | refine LeO.ite ?_ ?_
   | refine LeO.bind ?_ (fun _ => ?_)
  ·intro y0 y1 y2 y3 y4
   unfold pred_Of_1.l0
   repeat' first
   | (with_reducible exact ih0 _ _ _ _ _ _ _ _ _ _ _ _ _ _ _)
   | (with_reducible exact ih1 _ _ _ _ _)
   | (with_reducible exact ih2 _ _ _ _ _ _ _ _ _ _ _ _ _ _ _)
   | (with_reducible exact logic_And.mono _ _)
   | (with_reducible exact logic_Or.mono _ _)
   | (with_reducible exact LeO.refl _)
   | (with_reducible exact LeO.none _)
   | (with_reducible refine LeO.ite ?_ ?_)
   | (with_reducible refine LeO.bind ?_ (fun _ => ?_))
   | exact ih0 _ _ _ _ _ _ _ _ _ _ _ _ _ _ _
   | exact ih1 _ _ _ _ _
   | exact ih2 _ _ _ _ _ _ _ _ _ _ _ _ _ _ _
   | exact logic_And.mono _ _
   | exact logic_Or.mono _ _
   | exact LeO.none _
   | refine LeO.ite ?_ ?_
   | refine LeO.bind ?_ (fun _ => ?_)
  ·intro y0 y1 y2 y3 y4 y5 y6 y7 y8 y9 y10 y11 y12 y13 y14
   unfold pred_Of.f
   repeat' first
   | (with_reducible exact ih0 _ _ _ _ _ _ _ _ _ _ _ _ _ _ _)
   | (with_reducible exact ih1 _ _ _ _ _)
   | (with_reducible exact ih2 _ _ _ _ _ _ _ _ _ _ _ _ _ _ _)
   | (with_reducible exact logic_And.mono _ _)
   | (with_reducible exact logic_Or.mono _ _)
   | (with_reducible exact LeO.refl _)
   | (with_reducible exact LeO.none _)
   | (with_reducible refine LeO.ite ?_ ?_)
   | (with_reducible refine LeO.bind ?_ (fun _ => ?_))
   | exact ih0 _ _ _ _ _ _ _ _ _ _ _ _ _ _ _
   | exact ih1 _ _ _ _ _
   | exact ih2 _ _ _ _ _ _ _ _ _ _ _ _ _ _ _
   | exact logic_And.mono _ _
   | exact logic_Or.mono _ _
   | exact LeO.none _
   | refine LeO.ite ?_ ?_
   | refine LeO.bind ?_ (fun _ => ?_)
theorem pred_Of_1.mono : ∀ a0 a1 a2 a3 a4 a5 a6 a7 a8 a9 a10 a11 a12 a13 a14 k, LeO (pred_Of_1.f k a0 a1 a2 a3 a4 a5 a6 a7 a8 a9 a10 a11 a12 a13 a14) (pred_Of_1.f (k + 1) a0 a1 a2 a3 a4 a5 a6 a7 a8 a9 a10 a11 a12 a13 a14) := by
 intro a0 a1 a2 a3 a4 a5 a6 a7 a8 a9 a10 a11 a12 a13 a14 k
 obtain ⟨ih0, ih1, ih2⟩ := pred_Of_1.mono_g k
 exact ih0 a0 a1 a2 a3 a4 a5 a6 a7 a8 a9 a10 a11 a12 a13 a14
theorem pred_Of.mono : ∀ a0 a1 a2 a3 a4 a5 a6 a7 a8 a9 a10 a11 a12 a13 a14 k, LeO (pred_Of.f k a0 a1 a2 a3 a4 a5 a6 a7 a8 a9 a10 a11 a12 a13 a14) (pred_Of.f (k + 1) a0 a1 a2 a3 a4 a5 a6 a7 a8 a9 a10 a11 a12 a13 a14) := by
 intro a0 a1 a2 a3 a4 a5 a6 a7 a8 a9 a10 a11 a12 a13 a14 k
 obtain ⟨ih0, ih1, ih2⟩ := pred_Of_1.mono_g k
 exact ih2 a0 a1 a2 a3 a4 a5 a6 a7 a8 a9 a10 a11 a12 a13 a14
@[reducible] def pred_Of_1.Says (k : Nat) : Prop := ∀ (g0 : Nat) (a0_0 : Int) (a0_1 : Int) (a0_2 : Int) (a0_3 : Int) (a0_4 : Int) (a0_5 : Int) (a0_6 : Bool) (a0_7 : Int) (a0_8 : Int) (a0_9 : Int) (a0_10 : Int) (a0_11 : Bool) (a0_12 : Int) (A0_13 : Option Addr) (c0_13 : Nat) (l0_13 : List (S46)) (g1 : Nat) (A1_0 : Option Addr) (c1_0 : Nat) (l1_0 : List (List (S42))) (r : List Int) (w : World) (hb0 : w.heap[g0]? = some (.cells #[.int .i64 a0_0, .int .i64 a0_1, .int .i64 a0_2, .int .i64 a0_3, .int .i64 a0_4, .int .i64 a0_5, .bool a0_6, .int .i64 a0_7, .int .i64 a0_8, .int .i64 a0_9, .int .i64 a0_10, .bool a0_11, .int .i64 a0_12, .slice A0_13 l0_13.length c0_13] 46 (0, 0))) (hr0_13 : Kd.C k46 w A0_13 l0_13.length l0_13) (hc0_13 : l0_13.length ≤ c0_13) (hb1 : w.heap[g1]? = some (.cells #[.slice A1_0 l1_0.length c1_0] 51 (0, 0))) (hr1_0 : Kd.C (Kd.slice 42 k42) w A1_0 l1_0.length l1_0) (hc1_0 : l1_0.length ≤ c1_0) (h : pred_Of_1.f k a0_0 a0_1 a0_2 a0_3 a0_4 a0_5 a0_6 a0_7 a0_8 a0_9 a0_10 a0_11 a0_12 l0_13 l1_0 = some r),
  Calls Try.prog 67 #[.pointer (some ⟨g0, 0, none⟩), .pointer (some ⟨g1, 0, none⟩)] w fun e w' => ∃ v0_ : Value, e = .returned (v0_) ∧ Kd.R (Kd.int .i64) 3 w' w.heap.size (fun _ => True) v0_ r ∧ Below w.heap.size w w'
@[reducible] def pred_Of.Says (k : Nat) : Prop := ∀ (a0_0 : Int) (a0_1 : Int) (a0_2 : Int) (a0_3 : Int) (a0_4 : Int) (a0_5 : Int) (a0_6 : Bool) (a0_7 : Int) (a0_8 : Int) (a0_9 : Int) (a0_10 : Int) (a0_11 : Bool) (a0_12 : Int) (A0_13 : Option Addr) (c0_13 : Nat) (l0_13 : List (S46)) (A1 : Option Addr) (c1 : Nat) (l1 : List (List (S42))) (r : Int) (w : World) (hr0_13 : Kd.C k46 w A0_13 l0_13.length l0_13) (hc0_13 : l0_13.length ≤ c0_13) (hr1 : Kd.C (Kd.slice 42 k42) w A1 l1.length l1) (hc1 : l1.length ≤ c1) (h : pred_Of.f k a0_0 a0_1 a0_2 a0_3 a0_4 a0_5 a0_6 a0_7 a0_8 a0_9 a0_10 a0_11 a0_12 l0_13 l1 = some r),
  Calls Try.prog 31 #[.agg #[.int .i64 a0_0, .int .i64 a0_1, .int .i64 a0_2, .int .i64 a0_3, .int .i64 a0_4, .int .i64 a0_5, .bool a0_6, .int .i64 a0_7, .int .i64 a0_8, .int .i64 a0_9, .int .i64 a0_10, .bool a0_11, .int .i64 a0_12, .slice A0_13 l0_13.length c0_13], .slice A1 l1.length c1] w fun e w' => e = .returned (.int .i64 r) ∧ Below w.heap.size w w'
set_option maxHeartbeats 8000000 in
set_option maxRecDepth 100000 in
theorem pred_Of_1.calls_of (k : Nat) (ih : ∀ j_, j_ < k → pred_Of_1.Says j_) (ihg_pred_Of : ∀ j_, j_ < k → pred_Of.Says j_) : pred_Of_1.Says k := by
 unfold pred_Of_1.Says
 intro g0 a0_0 a0_1 a0_2 a0_3 a0_4 a0_5 a0_6 a0_7 a0_8 a0_9 a0_10 a0_11 a0_12 A0_13 c0_13 l0_13 g1 A1_0 c1_0 l1_0 r w hb0 hr0_13 hc0_13 hb1 hr1_0 hc1_0 h
 cases k with
 | zero => exact absurd h (by simp [pred_Of_1.f])
 | succ k =>
 simp only [pred_Of_1.f] at h
 have hu46 := Try.underlying46
 have HR0_13 := Aside0.mk hr0_13
 have HC0_13 := Aside0.mk hc0_13
 clear hr0_13 hc0_13
 have HR1_0 := Aside0.mk hr1_0
 have HC1_0 := Aside0.mk hc1_0
 clear hr1_0 hc1_0
 have BK0 := Aside0.mk hb0
 clear hb0
 have BK1 := Aside0.mk hb1
 clear hb1
 have NB0_1 := Aside0.mk (blk_ne BK0.out BK1.out (by decide))
 have NB1_0 := Aside0.mk (blk_ne BK1.out BK0.out (by decide))
 have HB := Aside0.mk (Below.refl w.heap.size w)
 have H : (pred_Of_1.l0 k ([] : List Int) l0_13 (l0_13.length : Int) 0 l1_0) = some r := h
 clear h
 have H' := Aside0.mk H
 clear H
 have hnb3 := NB0_1.out
 have hnc3 := NB1_0.out
 have hcz4 := blk_cell BK0.out
 have hfz4 := blk_frozen BK0.out
 go_enter Try.func67, Try.ntmps67
 go_wp2
 go_loopg [3, 9] k (fun kq v3 v9 w' => ∃ (x3_1 : List Int) (x9_1 : Int), v9 = .int .i64 x9_1 ∧ Aside0 (pred_Of_1.l0 kq x3_1 l0_13 (l0_13.length : Int) x9_1 l1_0 = some r) ∧ Aside0 (kq ≤ k) ∧ Aside0 (Kd.R (Kd.int .i64) 3 w' w.heap.size (fun _ => True) v3 x3_1) ∧ Aside0 (w'.heap[g0]? = some (.cells #[.int .i64 a0_0, .int .i64 a0_1, .int .i64 a0_2, .int .i64 a0_3, .int .i64 a0_4, .int .i64 a0_5, .bool a0_6, .int .i64 a0_7, .int .i64 a0_8, .int .i64 a0_9, .int .i64 a0_10, .bool a0_11, .int .i64 a0_12, (.slice A0_13 l0_13.length c0_13)] 46 (0, 0))) ∧ Aside0 (w'.heap[g1]? = some (.cells #[(.slice A1_0 l1_0.length c1_0)] 51 (0, 0))) ∧ Aside0 (Below w.heap.size w w'))
 case atStart => exact ⟨(([] : List Int)), (0), (by first | rfl | (simp; done) | (simp [*]; done)), H', ⟨Nat.le_refl _⟩, ⟨by first | exact Kd.R_nil _ _ _ _ _ | exact Kd.N_nil _ _ _ _ _ | exact Kd.V_nil _ _ _ _ _ | exact Kd.Q_nil _ _ _ _ _ | exact Kd.S_nil _ _ _ _ _⟩, ⟨bk_ BK0.out⟩, ⟨bk_ BK1.out⟩, ⟨bl_ HB.out⟩⟩
 case round =>
  clear H'
  try clear c1
  try clear p2
  try clear c3
  try clear hcz4
  try clear hfz4
  obtain ⟨x3_1, x9_1, rfl, HA, HK1, HO_3, BK0, BK1, HB⟩ := hrel
  cases gk with
  | zero => exact absurd HA.out (by simp [pred_Of_1.l0])
  | succ k1 =>
   have H := HA.out
   clear HA
   simp only [pred_Of_1.l0] at H
   by_cases c5 : x9_1 < (l0_13.length : Int)
   ·rw [if_pos c5] at H
    have c5b0 : decide (x9_1 < (l0_13.length : Int)) = true := decide_eq_true c5
    clear c5
    by_cases c6 : 0 ≤ x9_1
    ·rw [if_pos c6] at H
     have c6b0 : decide (0 ≤ x9_1) = true := decide_eq_true c6
     clear c6
     by_cases c7 : x9_1 < (l0_13.length : Int)
     ·rw [if_pos c7] at H
      have c7b0 : decide (x9_1 < (l0_13.length : Int)) = true := decide_eq_true c7
      clear c7
      replace H := Option.bind_eq_some_iff.mp H
      obtain ⟨t405, A80, H⟩ := H
      replace H : (if x3_1.length < 17592186044416 then (pred_Of_1.l0 k1 (x3_1 ++ [t405]) l0_13 (l0_13.length : Int) (wrap64 (x9_1 + 1)) l1_0) else (none)) = some r := H
      have A8 := Aside0.mk A80
      clear A80
      by_cases c9 : x3_1.length < 17592186044416
      ·rw [if_pos c9] at H
       have LMc9 := Aside0.mk c9
       clear c9
       obtain ⟨y406, hy406⟩ : ∃ y_ : List Int, y_ = (x3_1 ++ [t405]) := ⟨_, rfl⟩
       replace H : (pred_Of_1.l0 k1 y406 l0_13 (l0_13.length : Int) (wrap64 (x9_1 + 1)) l1_0) = some r := by first | (rw [hy406]; with_reducible exact H) | (have H2_ := (Option.bind_some _ _).symm.trans H; rw [hy406]; with_reducible exact H2_) | (have H2_ := (Option.bind_some _ _).symm.trans H; with_reducible exact H2_) | with_reducible exact H | (rw [hy406]; exact H) | exact H
       have Ny406 := Aside0.mk hy406
       clear hy406
       have H' := Aside0.mk H
       clear H
       have p403 : 0 ≤ (x9_1 : Int) := of_decide_eq_true (by first | (with_reducible assumption) | assumption)
       have q403 : x9_1 < (l0_13.length : Int) := of_decide_eq_true (by first | (with_reducible assumption) | assumption)
       obtain ⟨ad403, A403_13, c403_13, e403, hx403_0, hx403_1, hx403_2, hx403_3, hx403_4, hx403_5, hx403_6, hx403_7, hx403_8, hx403_9, hx403_10, hx403_11, hx403_12, hx403_13, hl403_13, hi403_13⟩ := at_T46 HR0_13.out x9_1 p403 q403
       cases e403
       replace hx403_0 := (HB.out.cell (World.block_lt_of_cell? w _ hx403_0)).trans hx403_0
       replace hx403_1 := (HB.out.cell (World.block_lt_of_cell? w _ hx403_1)).trans hx403_1
       replace hx403_2 := (HB.out.cell (World.block_lt_of_cell? w _ hx403_2)).trans hx403_2
       replace hx403_3 := (HB.out.cell (World.block_lt_of_cell? w _ hx403_3)).trans hx403_3
       replace hx403_4 := (HB.out.cell (World.block_lt_of_cell? w _ hx403_4)).trans hx403_4
       replace hx403_5 := (HB.out.cell (World.block_lt_of_cell? w _ hx403_5)).trans hx403_5
       replace hx403_6 := (HB.out.cell (World.block_lt_of_cell? w _ hx403_6)).trans hx403_6
       replace hx403_7 := (HB.out.cell (World.block_lt_of_cell? w _ hx403_7)).trans hx403_7
       replace hx403_8 := (HB.out.cell (World.block_lt_of_cell? w _ hx403_8)).trans hx403_8
       replace hx403_9 := (HB.out.cell (World.block_lt_of_cell? w _ hx403_9)).trans hx403_9
       replace hx403_10 := (HB.out.cell (World.block_lt_of_cell? w _ hx403_10)).trans hx403_10
       replace hx403_11 := (HB.out.cell (World.block_lt_of_cell? w _ hx403_11)).trans hx403_11
       replace hx403_12 := (HB.out.cell (World.block_lt_of_cell? w _ hx403_12)).trans hx403_12
       replace hx403_13 := (HB.out.cell (World.block_lt_of_cell? w _ hx403_13)).trans hx403_13
       have HR403_13 := Aside0.mk hi403_13
       have HC403_13 := Aside0.mk hl403_13
       clear hi403_13 hl403_13
       replace p403 := eq_true p403
       replace q403 := eq_true q403
       go_wp2_with (first | ((with_reducible refine gate_dst (N := 5) rfl ?_); refine box_event ?hg (N := 5) ?hd (cs := #[.int .i64 0, .int .i64 0, .int .i64 0, .int .i64 0, .int .i64 0, .int .i64 0, .bool false, .int .i64 0, .int .i64 0, .int .i64 0, .int .i64 0, .bool false, .int .i64 0, .slice none 0 0]) (t := 46) ?hr ?_; (case hd => rfl); (case hg => rfl); (case hr => first | (go_simp; done) | (go_simp; rfl)); intro gb404 hg w10 hbox hb; replace HO_3 := Aside0.mk (Kd.R_below (rd_ HO_3.out) hb); have BK404 := Aside0.mk (hbox); have GW404 := Aside0.mk ((by rw [hg]; exact (below_size (bl_ HB.out)) : w.heap.size ≤ gb404)); replace HB := Aside0.mk (below_step (bl_ HB.out) hb); have GE404 := GW404; have NB0_404 := Aside0.mk ((by rw [hg]; exact Nat.ne_of_lt (blk_lt (bk_ BK0.out)) : g0 ≠ gb404)); have NB404_0 := Aside0.mk ((by rw [hg]; exact Nat.ne_of_gt (blk_lt (bk_ BK0.out)) : gb404 ≠ g0)); replace BK0 := Aside0.mk (blk_below (bk_ BK0.out) hb); have NB1_404 := Aside0.mk ((by rw [hg]; exact Nat.ne_of_lt (blk_lt (bk_ BK1.out)) : g1 ≠ gb404)); have NB404_1 := Aside0.mk ((by rw [hg]; exact Nat.ne_of_gt (blk_lt (bk_ BK1.out)) : gb404 ≠ g1)); replace BK1 := Aside0.mk (blk_below (bk_ BK1.out) hb); clear hb hbox hg; have hnb11 := NB404_0.out; have hnc11 := NB0_404.out; have hnb12 := NB404_1.out; have hnc12 := NB1_404.out; have hcz13 := blk_cell BK404.out; have hfz13 := blk_frozen BK404.out; have hnb14 := NB1_0.out; have hnc14 := NB0_1.out; have hcz15_0 : w10.cell? ⟨g1, 0, none⟩ = some (.slice A1_0 l1_0.length c1_0) := (blk_cell BK1.out 0).trans rfl; have hfz15_0 := blk_frozen BK1.out 0) | ((with_reducible refine gate_callee (f := 31) rfl ?_); refine goesL_ (some 16) rfl rfl Try.func31 (by kernel_rfl) rfl #[.agg #[.int .i64 ((rd_T46 l0_13 x9_1).f0), .int .i64 ((rd_T46 l0_13 x9_1).f1), .int .i64 ((rd_T46 l0_13 x9_1).f2), .int .i64 ((rd_T46 l0_13 x9_1).f3.f0), .int .i64 ((rd_T46 l0_13 x9_1).f3.f1), .int .i64 ((rd_T46 l0_13 x9_1).f3.f2), .bool ((rd_T46 l0_13 x9_1).f3.f3.f0), .int .i64 ((rd_T46 l0_13 x9_1).f3.f3.f1), .int .i64 ((rd_T46 l0_13 x9_1).f4.f0), .int .i64 ((rd_T46 l0_13 x9_1).f4.f1), .int .i64 ((rd_T46 l0_13 x9_1).f4.f2), .bool ((rd_T46 l0_13 x9_1).f4.f3.f0), .int .i64 ((rd_T46 l0_13 x9_1).f4.f3.f1), .slice A403_13 ((rd_T46 l0_13 x9_1).f5).length c403_13], .slice A1_0 l1_0.length c1_0] rfl (by (try simp only [List.map_toArray, List.map_cons, List.map_nil]); first | done | rfl | (simp only [List.length_drop, List.length_take]; rfl)) ?_; (with_reducible refine (ihg_pred_Of k1 (by have := HK1.out; omega) ((rd_T46 l0_13 x9_1).f0) ((rd_T46 l0_13 x9_1).f1) ((rd_T46 l0_13 x9_1).f2) ((rd_T46 l0_13 x9_1).f3.f0) ((rd_T46 l0_13 x9_1).f3.f1) ((rd_T46 l0_13 x9_1).f3.f2) ((rd_T46 l0_13 x9_1).f3.f3.f0) ((rd_T46 l0_13 x9_1).f3.f3.f1) ((rd_T46 l0_13 x9_1).f4.f0) ((rd_T46 l0_13 x9_1).f4.f1) ((rd_T46 l0_13 x9_1).f4.f2) ((rd_T46 l0_13 x9_1).f4.f3.f0) ((rd_T46 l0_13 x9_1).f4.f3.f1) _ _ ((rd_T46 l0_13 x9_1).f5) _ _ l1_0 t405 _ ?side1 ?side2 ?side3 ?side4 A8.out).mono ?_); (case side1 => exact Kd.C_below HR403_13.out (bl1_ HB.out GE404.out)); (case side2 => exact HC403_13.out); (case side3 => exact Kd.C_below HR1_0.out (bl1_ HB.out GE404.out)); (case side4 => exact HC1_0.out); rintro e w16 ⟨rfl, hb⟩; refine ⟨_, rfl, ?_⟩; replace HO_3 := Aside0.mk (Kd.R_below (by (with_reducible repeat (first | apply Kd.R_alloc | apply Kd.R_drewN | apply Kd.R_drew)); exact (Kd.R_mono (Kd.R_far (p := ⟨gb404, 13, none⟩) (Kd.R_far (p := ⟨gb404, 12, none⟩) (Kd.R_far (p := ⟨gb404, 11, none⟩) (Kd.R_far (p := ⟨gb404, 10, none⟩) (Kd.R_far (p := ⟨gb404, 9, none⟩) (Kd.R_far (p := ⟨gb404, 8, none⟩) (Kd.R_far (p := ⟨gb404, 7, none⟩) (Kd.R_far (p := ⟨gb404, 6, none⟩) (Kd.R_far (p := ⟨gb404, 5, none⟩) (Kd.R_far (p := ⟨gb404, 4, none⟩) (Kd.R_far (p := ⟨gb404, 3, none⟩) (Kd.R_far (p := ⟨gb404, 2, none⟩) (Kd.R_far (p := ⟨gb404, 1, none⟩) (Kd.R_far (p := ⟨gb404, 0, none⟩) (Kd.R_types HO_3.out BK404.out (by decide)) (fun _ hk => hk.2) (.int .i64 ((rd_T46 l0_13 x9_1).f0))) (fun _ hk => hk.2) (.int .i64 ((rd_T46 l0_13 x9_1).f1))) (fun _ hk => hk.2) (.int .i64 ((rd_T46 l0_13 x9_1).f2))) (fun _ hk => hk.2) (.int .i64 ((rd_T46 l0_13 x9_1).f3.f0))) (fun _ hk => hk.2) (.int .i64 ((rd_T46 l0_13 x9_1).f3.f1))) (fun _ hk => hk.2) (.int .i64 ((rd_T46 l0_13 x9_1).f3.f2))) (fun _ hk => hk.2) (.bool ((rd_T46 l0_13 x9_1).f3.f3.f0))) (fun _ hk => hk.2) (.int .i64 ((rd_T46 l0_13 x9_1).f3.f3.f1))) (fun _ hk => hk.2) (.int .i64 ((rd_T46 l0_13 x9_1).f4.f0))) (fun _ hk => hk.2) (.int .i64 ((rd_T46 l0_13 x9_1).f4.f1))) (fun _ hk => hk.2) (.int .i64 ((rd_T46 l0_13 x9_1).f4.f2))) (fun _ hk => hk.2) (.bool ((rd_T46 l0_13 x9_1).f4.f3.f0))) (fun _ hk => hk.2) (.int .i64 ((rd_T46 l0_13 x9_1).f4.f3.f1))) (fun _ hk => hk.2) (.slice A403_13 ((rd_T46 l0_13 x9_1).f5).length c403_13)) (fun _ h_ => h_.1))) hb); replace BK0 := Aside0.mk (blk_below (g := g0) (o := .cells #[.int .i64 a0_0, .int .i64 a0_1, .int .i64 a0_2, .int .i64 a0_3, .int .i64 a0_4, .int .i64 a0_5, .bool a0_6, .int .i64 a0_7, .int .i64 a0_8, .int .i64 a0_9, .int .i64 a0_10, .bool a0_11, .int .i64 a0_12, .slice (some ad403) l0_13.length c0_13] 46 (0, 0)) (bf1_ BK0.out NB0_404.out) hb); replace BK1 := Aside0.mk (blk_below (g := g1) (o := .cells #[.slice A1_0 l1_0.length c1_0] 51 (0, 0)) (bf1_ BK1.out NB1_404.out) hb); replace BK404 := Aside0.mk (blk_below (g := gb404) (o := .cells #[.int .i64 ((rd_T46 l0_13 x9_1).f0), .int .i64 ((rd_T46 l0_13 x9_1).f1), .int .i64 ((rd_T46 l0_13 x9_1).f2), .int .i64 ((rd_T46 l0_13 x9_1).f3.f0), .int .i64 ((rd_T46 l0_13 x9_1).f3.f1), .int .i64 ((rd_T46 l0_13 x9_1).f3.f2), .bool ((rd_T46 l0_13 x9_1).f3.f3.f0), .int .i64 ((rd_T46 l0_13 x9_1).f3.f3.f1), .int .i64 ((rd_T46 l0_13 x9_1).f4.f0), .int .i64 ((rd_T46 l0_13 x9_1).f4.f1), .int .i64 ((rd_T46 l0_13 x9_1).f4.f2), .bool ((rd_T46 l0_13 x9_1).f4.f3.f0), .int .i64 ((rd_T46 l0_13 x9_1).f4.f3.f1), .slice A403_13 ((rd_T46 l0_13 x9_1).f5).length c403_13] 46 (0, 0)) (by (with_reducible repeat (first | refine blk_drewN ?_ _ | refine blk_drew ?_ | refine blk_alloc ?_ _)); refine blk_put (cs := #[.int .i64 ((rd_T46 l0_13 x9_1).f0), .int .i64 ((rd_T46 l0_13 x9_1).f1), .int .i64 ((rd_T46 l0_13 x9_1).f2), .int .i64 ((rd_T46 l0_13 x9_1).f3.f0), .int .i64 ((rd_T46 l0_13 x9_1).f3.f1), .int .i64 ((rd_T46 l0_13 x9_1).f3.f2), .bool ((rd_T46 l0_13 x9_1).f3.f3.f0), .int .i64 ((rd_T46 l0_13 x9_1).f3.f3.f1), .int .i64 ((rd_T46 l0_13 x9_1).f4.f0), .int .i64 ((rd_T46 l0_13 x9_1).f4.f1), .int .i64 ((rd_T46 l0_13 x9_1).f4.f2), .bool ((rd_T46 l0_13 x9_1).f4.f3.f0), .int .i64 ((rd_T46 l0_13 x9_1).f4.f3.f1), .slice none 0 0]) ?_ 13 _ rfl; (with_reducible repeat (first | refine blk_drewN ?_ _ | refine blk_drew ?_ | refine blk_alloc ?_ _)); refine blk_put (cs := #[.int .i64 ((rd_T46 l0_13 x9_1).f0), .int .i64 ((rd_T46 l0_13 x9_1).f1), .int .i64 ((rd_T46 l0_13 x9_1).f2), .int .i64 ((rd_T46 l0_13 x9_1).f3.f0), .int .i64 ((rd_T46 l0_13 x9_1).f3.f1), .int .i64 ((rd_T46 l0_13 x9_1).f3.f2), .bool ((rd_T46 l0_13 x9_1).f3.f3.f0), .int .i64 ((rd_T46 l0_13 x9_1).f3.f3.f1), .int .i64 ((rd_T46 l0_13 x9_1).f4.f0), .int .i64 ((rd_T46 l0_13 x9_1).f4.f1), .int .i64 ((rd_T46 l0_13 x9_1).f4.f2), .bool ((rd_T46 l0_13 x9_1).f4.f3.f0), .int .i64 0, .slice none 0 0]) ?_ 12 _ rfl; (with_reducible repeat (first | refine blk_drewN ?_ _ | refine blk_drew ?_ | refine blk_alloc ?_ _)); refine blk_put (cs := #[.int .i64 ((rd_T46 l0_13 x9_1).f0), .int .i64 ((rd_T46 l0_13 x9_1).f1), .int .i64 ((rd_T46 l0_13 x9_1).f2), .int .i64 ((rd_T46 l0_13 x9_1).f3.f0), .int .i64 ((rd_T46 l0_13 x9_1).f3.f1), .int .i64 ((rd_T46 l0_13 x9_1).f3.f2), .bool ((rd_T46 l0_13 x9_1).f3.f3.f0), .int .i64 ((rd_T46 l0_13 x9_1).f3.f3.f1), .int .i64 ((rd_T46 l0_13 x9_1).f4.f0), .int .i64 ((rd_T46 l0_13 x9_1).f4.f1), .int .i64 ((rd_T46 l0_13 x9_1).f4.f2), .bool false, .int .i64 0, .slice none 0 0]) ?_ 11 _ rfl; (with_reducible repeat (first | refine blk_drewN ?_ _ | refine blk_drew ?_ | refine blk_alloc ?_ _)); refine blk_put (cs := #[.int .i64 ((rd_T46 l0_13 x9_1).f0), .int .i64 ((rd_T46 l0_13 x9_1).f1), .int .i64 ((rd_T46 l0_13 x9_1).f2), .int .i64 ((rd_T46 l0_13 x9_1).f3.f0), .int .i64 ((rd_T46 l0_13 x9_1).f3.f1), .int .i64 ((rd_T46 l0_13 x9_1).f3.f2), .bool ((rd_T46 l0_13 x9_1).f3.f3.f0), .int .i64 ((rd_T46 l0_13 x9_1).f3.f3.f1), .int .i64 ((rd_T46 l0_13 x9_1).f4.f0), .int .i64 ((rd_T46 l0_13 x9_1).f4.f1), .int .i64 0, .bool false, .int .i64 0, .slice none 0 0]) ?_ 10 _ rfl; (with_reducible repeat (first | refine blk_drewN ?_ _ | refine blk_drew ?_ | refine blk_alloc ?_ _)); refine blk_put (cs := #[.int .i64 ((rd_T46 l0_13 x9_1).f0), .int .i64 ((rd_T46 l0_13 x9_1).f1), .int .i64 ((rd_T46 l0_13 x9_1).f2), .int .i64 ((rd_T46 l0_13 x9_1).f3.f0), .int .i64 ((rd_T46 l0_13 x9_1).f3.f1), .int .i64 ((rd_T46 l0_13 x9_1).f3.f2), .bool ((rd_T46 l0_13 x9_1).f3.f3.f0), .int .i64 ((rd_T46 l0_13 x9_1).f3.f3.f1), .int .i64 ((rd_T46 l0_13 x9_1).f4.f0), .int .i64 0, .int .i64 0, .bool false, .int .i64 0, .slice none 0 0]) ?_ 9 _ rfl; (with_reducible repeat (first | refine blk_drewN ?_ _ | refine blk_drew ?_ | refine blk_alloc ?_ _)); refine blk_put (cs := #[.int .i64 ((rd_T46 l0_13 x9_1).f0), .int .i64 ((rd_T46 l0_13 x9_1).f1), .int .i64 ((rd_T46 l0_13 x9_1).f2), .int .i64 ((rd_T46 l0_13 x9_1).f3.f0), .int .i64 ((rd_T46 l0_13 x9_1).f3.f1), .int .i64 ((rd_T46 l0_13 x9_1).f3.f2), .bool ((rd_T46 l0_13 x9_1).f3.f3.f0), .int .i64 ((rd_T46 l0_13 x9_1).f3.f3.f1), .int .i64 0, .int .i64 0, .int .i64 0, .bool false, .int .i64 0, .slice none 0 0]) ?_ 8 _ rfl; (with_reducible repeat (first | refine blk_drewN ?_ _ | refine blk_drew ?_ | refine blk_alloc ?_ _)); refine blk_put (cs := #[.int .i64 ((rd_T46 l0_13 x9_1).f0), .int .i64 ((rd_T46 l0_13 x9_1).f1), .int .i64 ((rd_T46 l0_13 x9_1).f2), .int .i64 ((rd_T46 l0_13 x9_1).f3.f0), .int .i64 ((rd_T46 l0_13 x9_1).f3.f1), .int .i64 ((rd_T46 l0_13 x9_1).f3.f2), .bool ((rd_T46 l0_13 x9_1).f3.f3.f0), .int .i64 0, .int .i64 0, .int .i64 0, .int .i64 0, .bool false, .int .i64 0, .slice none 0 0]) ?_ 7 _ rfl; (with_reducible repeat (first | refine blk_drewN ?_ _ | refine blk_drew ?_ | refine blk_alloc ?_ _)); refine blk_put (cs := #[.int .i64 ((rd_T46 l0_13 x9_1).f0), .int .i64 ((rd_T46 l0_13 x9_1).f1), .int .i64 ((rd_T46 l0_13 x9_1).f2), .int .i64 ((rd_T46 l0_13 x9_1).f3.f0), .int .i64 ((rd_T46 l0_13 x9_1).f3.f1), .int .i64 ((rd_T46 l0_13 x9_1).f3.f2), .bool false, .int .i64 0, .int .i64 0, .int .i64 0, .int .i64 0, .bool false, .int .i64 0, .slice none 0 0]) ?_ 6 _ rfl; (with_reducible repeat (first | refine blk_drewN ?_ _ | refine blk_drew ?_ | refine blk_alloc ?_ _)); refine blk_put (cs := #[.int .i64 ((rd_T46 l0_13 x9_1).f0), .int .i64 ((rd_T46 l0_13 x9_1).f1), .int .i64 ((rd_T46 l0_13 x9_1).f2), .int .i64 ((rd_T46 l0_13 x9_1).f3.f0), .int .i64 ((rd_T46 l0_13 x9_1).f3.f1), .int .i64 0, .bool false, .int .i64 0, .int .i64 0, .int .i64 0, .int .i64 0, .bool false, .int .i64 0, .slice none 0 0]) ?_ 5 _ rfl; (with_reducible repeat (first | refine blk_drewN ?_ _ | refine blk_drew ?_ | refine blk_alloc ?_ _)); refine blk_put (cs := #[.int .i64 ((rd_T46 l0_13 x9_1).f0), .int .i64 ((rd_T46 l0_13 x9_1).f1), .int .i64 ((rd_T46 l0_13 x9_1).f2), .int .i64 ((rd_T46 l0_13 x9_1).f3.f0), .int .i64 0, .int .i64 0, .bool false, .int .i64 0, .int .i64 0, .int .i64 0, .int .i64 0, .bool false, .int .i64 0, .slice none 0 0]) ?_ 4 _ rfl; (with_reducible repeat (first | refine blk_drewN ?_ _ | refine blk_drew ?_ | refine blk_alloc ?_ _)); refine blk_put (cs := #[.int .i64 ((rd_T46 l0_13 x9_1).f0), .int .i64 ((rd_T46 l0_13 x9_1).f1), .int .i64 ((rd_T46 l0_13 x9_1).f2), .int .i64 0, .int .i64 0, .int .i64 0, .bool false, .int .i64 0, .int .i64 0, .int .i64 0, .int .i64 0, .bool false, .int .i64 0, .slice none 0 0]) ?_ 3 _ rfl; (with_reducible repeat (first | refine blk_drewN ?_ _ | refine blk_drew ?_ | refine blk_alloc ?_ _)); refine blk_put (cs := #[.int .i64 ((rd_T46 l0_13 x9_1).f0), .int .i64 ((rd_T46 l0_13 x9_1).f1), .int .i64 0, .int .i64 0, .int .i64 0, .int .i64 0, .bool false, .int .i64 0, .int .i64 0, .int .i64 0, .int .i64 0, .bool false, .int .i64 0, .slice none 0 0]) ?_ 2 _ rfl; (with_reducible repeat (first | refine blk_drewN ?_ _ | refine blk_drew ?_ | refine blk_alloc ?_ _)); refine blk_put (cs := #[.int .i64 ((rd_T46 l0_13 x9_1).f0), .int .i64 0, .int .i64 0, .int .i64 0, .int .i64 0, .int .i64 0, .bool false, .int .i64 0, .int .i64 0, .int .i64 0, .int .i64 0, .bool false, .int .i64 0, .slice none 0 0]) ?_ 1 _ rfl; (with_reducible repeat (first | refine blk_drewN ?_ _ | refine blk_drew ?_ | refine blk_alloc ?_ _)); refine blk_put (cs := #[.int .i64 0, .int .i64 0, .int .i64 0, .int .i64 0, .int .i64 0, .int .i64 0, .bool false, .int .i64 0, .int .i64 0, .int .i64 0, .int .i64 0, .bool false, .int .i64 0, .slice none 0 0]) ?_ 0 _ rfl; (with_reducible repeat (first | refine blk_drewN ?_ _ | refine blk_drew ?_ | refine blk_alloc ?_ _)); exact BK404.out) hb); replace HB := Aside0.mk (below_step (bl1_ HB.out GE404.out) hb); (try clear hb)) | ((with_reducible refine gate_builtin (b := .append) (xs := #[.tmp 13, .tmp 17]) rfl ?_); at_builtin; refine Kd.R_append (Kd.int .i64) (w0 := w) w.heap.size rfl (.tmp 13) (.tmp 17) 34 3 (.int .i64 0) 8 rfl Try.underlying34 info3 rfl (by decide) (by omega) u3 x3_1 t405 [.int .i64 t405] (fun _ => True) (fun _ => False) rfl rfl ?aP (fun _ hk => hk.elim) ?aF ?aO ?aB ?aS ?aL ?_; (case aP => exact rfl); (case aB => exact (bl1_ HB.out GE404.out)); (case aF => exact (fun _ _ => trivial)); (case aO => exact (rd_ HO_3.out)); (case aS => exact (below_size (bl1_ HB.out GE404.out))); (case aL => have := LMc9.out; omega); intro v407 w17 ho hb hg hat; rw [← Ny406.out] at ho; have n0_ := Aside0.mk (blk_grown (g := g0) (o := .cells #[.int .i64 a0_0, .int .i64 a0_1, .int .i64 a0_2, .int .i64 a0_3, .int .i64 a0_4, .int .i64 a0_5, .bool a0_6, .int .i64 a0_7, .int .i64 a0_8, .int .i64 a0_9, .int .i64 a0_10, .bool a0_11, .int .i64 a0_12, .slice (some ad403) l0_13.length c0_13] 46 (0, 0)) (bk_ BK0.out) hg (Kd.R_ne HO_3.out BK0.out (by decide))); have n1_ := Aside0.mk (blk_grown (g := g1) (o := .cells #[.slice A1_0 l1_0.length c1_0] 51 (0, 0)) (bk_ BK1.out) hg (Kd.R_ne HO_3.out BK1.out (by decide))); have n2_ := Aside0.mk (blk_grown (g := gb404) (o := .cells #[.int .i64 ((rd_T46 l0_13 x9_1).f0), .int .i64 ((rd_T46 l0_13 x9_1).f1), .int .i64 ((rd_T46 l0_13 x9_1).f2), .int .i64 ((rd_T46 l0_13 x9_1).f3.f0), .int .i64 ((rd_T46 l0_13 x9_1).f3.f1), .int .i64 ((rd_T46 l0_13 x9_1).f3.f2), .bool ((rd_T46 l0_13 x9_1).f3.f3.f0), .int .i64 ((rd_T46 l0_13 x9_1).f3.f3.f1), .int .i64 ((rd_T46 l0_13 x9_1).f4.f0), .int .i64 ((rd_T46 l0_13 x9_1).f4.f1), .int .i64 ((rd_T46 l0_13 x9_1).f4.f2), .bool ((rd_T46 l0_13 x9_1).f4.f3.f0), .int .i64 ((rd_T46 l0_13 x9_1).f4.f3.f1), .slice A403_13 ((rd_T46 l0_13 x9_1).f5).length c403_13] 46 (0, 0)) (bk_ BK404.out) hg (Kd.R_ne HO_3.out BK404.out (by decide))); have n3_ := Aside0.mk (hb); have n4_ := Aside0.mk (ho); clear BK0; clear BK1; clear BK404; clear HB; clear HO_3; have BK0 := n0_; have BK1 := n1_; have BK404 := n2_; have HB := n3_; have HO408 := n4_; clear n0_ n1_ n2_ n3_ n4_; clear ho hb hg hat))
       go_roundg k1
       case measure => have := HK1.out; omega
       case rel => exact ⟨(y406), (wrap64 (x9_1 + 1)), (by first | rfl | (simp; done) | (simp [*]; done)), H', ⟨by have := HK1.out; omega⟩, ⟨rd_ HO408.out⟩, ⟨bk_ BK0.out⟩, ⟨bk_ BK1.out⟩, ⟨bl1_ HB.out GE404.out⟩⟩
      ·rw [if_neg c9] at H
       exact absurd H (by simp)
     ·rw [if_neg c7] at H
      exact absurd H (by simp)
    ·rw [if_neg c6] at H
     exact absurd H (by simp)
   ·rw [if_neg c5] at H
    have c5b0 : decide (x9_1 < (l0_13.length : Int)) = false := decide_eq_false c5
    clear c5
    obtain rfl := Option.some.inj H
    go_wp2
    go_ret
    exact ⟨_, by first | rfl | (simp [errW_none, errW_some] <;> rfl) | (simp [*, errW_none, errW_some] <;> rfl), by (with_reducible repeat (first | apply Kd.R_alloc | apply Kd.R_drewN | apply Kd.R_drew)); exact HO_3.out, by repeat (first | (with_reducible first | exact HB.out | apply below_alloc | apply pw_below_drewN | apply below_drew1 | refine below_set ?_ GE0.out | refine below_set ?_ GE1.out) | exact HB.out)⟩
/-! ### pred_Of: function 31 -/
def pred_Of.T6 : Bool × List (List Nat × List Nat) := (true, [([], []), ([0], [0]), ([], []), ([2], [2]), ([], []), ([3, 4], [3, 4]), ([], []), ([6], [6]), ([], []), ([7, 8, 5], [7, 8]), ([1, 5, 9, 9], [1, 5, 9]), ([10, 10, 0, 1, 2, 3, 4, 5, 6, 7, 8, 9, 10], [10])])
def pred_Of.B6 : List Nat := [0, 1, 0, 4, 0, 28, 0, 64, 0, 508, 1023, 2047]
theorem pred_Of.tab6 : rtab .any (opsOf Try.f31 6) = pred_Of.T6 := by kernel_rfl
theorem pred_Of.bits6 : waitsOk pred_Of.T6.2 pred_Of.B6 = true := by kernel_rfl
def pred_Of.T15 : Bool × List (List Nat × List Nat) := (true, [([], []), ([0], [0]), ([1], [1]), ([2], [2]), ([], []), ([3, 4], [3, 4]), ([5, 5], [5]), ([6, 6, 0, 1, 2, 3, 4, 5, 6], [6])])
def pred_Of.B15 : List Nat := [0, 1, 3, 7, 0, 31, 63, 127]
theorem pred_Of.tab15 : rtab .any (opsOf Try.f31 15) = pred_Of.T15 := by kernel_rfl
theorem pred_Of.bits15 : waitsOk pred_Of.T15.2 pred_Of.B15 = true := by kernel_rfl
set_option maxHeartbeats 8000000 in
set_option maxRecDepth 100000 in
theorem pred_Of.calls_of (k : Nat) (ih : ∀ j_, j_ < k → pred_Of.Says j_) (ihg_pred_Of_1 : ∀ j_, j_ < k → pred_Of_1.Says j_) : pred_Of.Says k := by
 unfold pred_Of.Says
 intro a0_0 a0_1 a0_2 a0_3 a0_4 a0_5 a0_6 a0_7 a0_8 a0_9 a0_10 a0_11 a0_12 A0_13 c0_13 l0_13 A1 c1 l1 r w hr0_13 hc0_13 hr1 hc1 h
 cases k with
 | zero => exact absurd h (by simp [pred_Of.f])
 | succ k =>
 simp only [pred_Of.f] at h
 have hu46 := Try.underlying46
 have hu44 := Try.underlying44
 have hu42 := Try.underlying42
 have hfd42_0 : ∀ (y0 : Bool) (y1 : Int) (w : World), (Instr.field 42 (.agg #[.bool y0, .int .i64 y1]) 0).run Try.prog w = .ok (.bool y0) w := by
  intro y0 y1 w
  first | rfl | (simp only [Instr.field, hu42, go_sem]; done) | (simp only [Instr.field, hu42, go_sem]; rfl)
 have hmf : ∀ (fn : Fn) (first cap : Array Value) (w : World), (Instr.makeFunc fn first cap).run Try.prog w = .ok (.func fn first cap) w := fun _ _ _ _ => rfl
 have HR0_13 := Aside0.mk hr0_13
 have HC0_13 := Aside0.mk hc0_13
 clear hr0_13 hc0_13
 have HR1 := Aside0.mk hr1
 have HC1 := Aside0.mk hc1
 clear hr1 hc1
 have HB := Aside0.mk (Below.refl w.heap.size w)
 have H : (if a0_0 = 1 then ((logic_And.f k (([a0_1] : List Int))).bind fun t414 => (some t414)) else (if a0_0 = 2 then ((term_Of.f a0_3 a0_4 a0_5 a0_6 a0_7 l1).bind fun bt415 => ((term_Of.f a0_8 a0_9 a0_10 a0_11 a0_12 l1).bind fun bt417 => ((value_Compare.f a0_2 bt415.1 bt415.2 bt417.1 bt417.2).bind fun t419 => (some t419)))) else (if a0_0 = 3 then ((term_Of.f a0_3 a0_4 a0_5 a0_6 a0_7 l1).bind fun bt420 => ((logic_Of.f bt420.1).bind fun t422 => (some t422))) else (if a0_0 = 4 then ((pred_Of_1.f k a0_0 a0_1 a0_2 a0_3 a0_4 a0_5 a0_6 a0_7 a0_8 a0_9 a0_10 a0_11 a0_12 l0_13 l1).bind fun t423 => ((logic_And.f k t423).bind fun t426 => (some t426))) else (if a0_0 = 5 then ((pred_Of_1.f k a0_0 a0_1 a0_2 a0_3 a0_4 a0_5 a0_6 a0_7 a0_8 a0_9 a0_10 a0_11 a0_12 l0_13 l1).bind fun t427 => ((logic_Or.f k t427).bind fun t430 => (some t430))) else (if a0_0 = 6 then (if (l0_13.length : Int) > 0 then (if 0 < (l0_13.length : Int) then ((pred_Of.f k ((rd_T46 l0_13 0).f0) ((rd_T46 l0_13 0).f1) ((rd_T46 l0_13 0).f2) ((rd_T46 l0_13 0).f3.f0) ((rd_T46 l0_13 0).f3.f1) ((rd_T46 l0_13 0).f3.f2) ((rd_T46 l0_13 0).f3.f3.f0) ((rd_T46 l0_13 0).f3.f3.f1) ((rd_T46 l0_13 0).f4.f0) ((rd_T46 l0_13 0).f4.f1) ((rd_T46 l0_13 0).f4.f2) ((rd_T46 l0_13 0).f4.f3.f0) ((rd_T46 l0_13 0).f4.f3.f1) ((rd_T46 l0_13 0).f5) l1).bind fun t432 => ((logic_Not.f t432).bind fun t433 => (some t433))) else (none)) else (some 1)) else (some 1))))))) = some r := h
 clear h
 by_cases c3 : a0_0 = 1
 ·rw [if_pos c3] at H
  have c3b0 : (a0_0 == 1) = true := beq_iff_eq.mpr c3
  have c3b1 : (a0_0 != 1) = false := bne_eq_false_iff_eq.mpr c3
  clear c3
  obtain ⟨y411, hy411⟩ : ∃ y_ : List Int, y_ = (([a0_1] : List Int)) := ⟨_, rfl⟩
  replace H : ((logic_And.f k y411).bind fun t414 => (some t414)) = some r := by first | (rw [hy411]; with_reducible exact H) | (have H2_ := (Option.bind_some _ _).symm.trans H; rw [hy411]; with_reducible exact H2_) | (have H2_ := (Option.bind_some _ _).symm.trans H; with_reducible exact H2_) | with_reducible exact H | (rw [hy411]; exact H) | exact H
  have Ny411 := Aside0.mk hy411
  clear hy411
  replace H := Option.bind_eq_some_iff.mp H
  obtain ⟨t414, A40, H⟩ := H
  replace H : (some t414) = some r := H
  have A4 := Aside0.mk A40
  clear A40
  obtain rfl := Option.some.inj H
  go_enter Try.func31, Try.ntmps31
  go_wp2_with (first | ((with_reducible refine gate_dst (N := 2) rfl ?_); refine box_event ?hg (N := 2) ?hd (cs := #[.int .i64 a0_0, .int .i64 a0_1, .int .i64 a0_2, .int .i64 a0_3, .int .i64 a0_4, .int .i64 a0_5, .bool a0_6, .int .i64 a0_7, .int .i64 a0_8, .int .i64 a0_9, .int .i64 a0_10, .bool a0_11, .int .i64 a0_12, .slice A0_13 l0_13.length c0_13]) (t := 46) ?hr ?_; (case hd => rfl); (case hg => rfl); (case hr => first | (go_simp; done) | (go_simp; rfl)); intro gb409 hg w5 hbox hb; have BK409 := Aside0.mk (hbox); have GW409 := Aside0.mk ((by rw [hg]; exact (below_size (bl_ HB.out)) : w.heap.size ≤ gb409)); replace HB := Aside0.mk (below_step (bl_ HB.out) hb); have GE409 := GW409; clear hb hbox hg) | ((with_reducible refine gate_dst (N := 3) rfl ?_); refine box_event ?hg (N := 3) ?hd (cs := #[.slice A1 l1.length c1]) (t := 51) ?hr ?_; (case hd => rfl); (case hg => rfl); (case hr => first | (go_simp; done) | (go_simp; rfl)); intro gb410 hg w6 hbox hb; have BK410 := Aside0.mk (hbox); have GW410 := Aside0.mk ((by rw [hg]; exact (below_size (bl1_ HB.out GE409.out)) : w.heap.size ≤ gb410)); replace HB := Aside0.mk (below_step (bl1_ HB.out GE409.out) hb); have GE410 := GW410; have NB409_410 := Aside0.mk ((by rw [hg]; exact Nat.ne_of_lt (blk_lt (bk_ BK409.out)) : gb409 ≠ gb410)); have NB410_409 := Aside0.mk ((by rw [hg]; exact Nat.ne_of_gt (blk_lt (bk_ BK409.out)) : gb410 ≠ gb409)); replace BK409 := Aside0.mk (blk_below (bk_ BK409.out) hb); clear hb hbox hg; have hnb7 := NB409_410.out; have hnc7 := NB410_409.out; have hcz8 := blk_cell BK409.out; have hfz8 := blk_frozen BK409.out; have hfz8_13 := blk_frozen BK409.out 13) | ((with_reducible refine gate_dst (N := 13) rfl ?_); refine Kd.R_lit (Kd.int .i64) _ 3 ?hg (N := 13) ?hd (xs := ([a0_1] : List Int)) (inner := [.int .i64 a0_1]) (ok := fun _ => True) (okp := fun _ => True) ?hr ?hp (fun _ hk => hk) trivial (Below.refl _ _) (Nat.le_refl _) (by simp) ?_; (case hd => rfl); (case hg => rfl); (case hr => first | (go_simp; done) | (go_simp; rfl)); (case hp => exact (Reps.one (show Kd.M (Kd.int .i64) _ _ _ a0_1 [.int .i64 a0_1] from rfl) (Reps.none _ _))); intro v412 w9 ho10 hb hg_ hnew_; clear hg_ hnew_; (first | rw [← Ny411.out] at ho10 | (simp only [Int.reduceToNat] at ho10; rw [← Ny411.out] at ho10)); have HO413 := Aside0.mk (Kd.R_lower ho10 (below_size (bl2_ HB.out GE409.out GE410.out))); replace BK409 := Aside0.mk (blk_below (bk_ BK409.out) hb); replace BK410 := Aside0.mk (blk_below (bk_ BK410.out) hb); replace HB := Aside0.mk (below_step (bl2_ HB.out GE409.out GE410.out) hb); clear hb ho10; obtain ⟨Ao11, co11, eo11⟩ := Kd.R_slice HO413.out; subst eo11) | ((with_reducible refine gate_callee (f := 60) rfl ?_); refine goesL_ (some 14) rfl rfl Try.func60 (by kernel_rfl) rfl #[.slice Ao11 y411.length co11] rfl (by (try simp only [List.map_toArray, List.map_cons, List.map_nil]); first | done | rfl | (simp only [List.length_drop, List.length_take]; rfl)) ?_; (with_reducible refine (logic_And.calls k _ _ y411 t414 _ ?side1 ?side2 A4.out).mono ?_); (case side1 => exact cd_ ((Kd.R_reads' HO413.out).2.2)); (case side2 => exact (Kd.R_reads' HO413.out).2.1); rintro e w12 ⟨rfl, hb⟩; refine ⟨_, rfl, ?_⟩; replace HO413 := Aside0.mk (Kd.R_below (rd_ HO413.out) hb); replace BK409 := Aside0.mk (blk_below (bk_ BK409.out) hb); replace BK410 := Aside0.mk (blk_below (bk_ BK410.out) hb); replace HB := Aside0.mk (below_step (bl2_ HB.out GE409.out GE410.out) hb); (try clear hb)))
  go_ret
  exact ⟨by first | rfl | (simp [errW_none, errW_some] <;> rfl) | (simp [*, errW_none, errW_some] <;> rfl), by repeat (first | (with_reducible first | exact HB.out | apply below_alloc | apply pw_below_drewN | apply below_drew1 | refine below_set ?_ GE409.out | refine below_set ?_ GE410.out) | exact HB.out)⟩
 ·rw [if_neg c3] at H
  have c3b0 : (a0_0 == 1) = false := beq_eq_false_iff_ne.mpr c3
  have c3b1 : (a0_0 != 1) = true := bne_iff_ne.mpr c3
  by_cases c13 : a0_0 = 2
  ·rw [if_pos c13] at H
   have c13b0 : (a0_0 == 2) = true := beq_iff_eq.mpr c13
   have c13b1 : (a0_0 != 2) = false := bne_eq_false_iff_eq.mpr c13
   clear c13
   replace H := Option.bind_eq_some_iff.mp H
   obtain ⟨⟨t415, t416⟩, A140, H⟩ := H
   replace H : ((term_Of.f a0_8 a0_9 a0_10 a0_11 a0_12 l1).bind fun bt417 => ((value_Compare.f a0_2 t415 t416 bt417.1 bt417.2).bind fun t419 => (some t419))) = some r := H
   have A14 := Aside0.mk A140
   clear A140
   replace H := Option.bind_eq_some_iff.mp H
   obtain ⟨⟨t417, t418⟩, A150, H⟩ := H
   replace H : ((value_Compare.f a0_2 t415 t416 t417 t418).bind fun t419 => (some t419)) = some r := H
   have A15 := Aside0.mk A150
   clear A150
   replace H := Option.bind_eq_some_iff.mp H
   obtain ⟨t419, A160, H⟩ := H
   replace H : (some t419) = some r := H
   have A16 := Aside0.mk A160
   clear A160
   obtain rfl := Option.some.inj H
   go_enter Try.func31, Try.ntmps31
   try go_wp2_with (first | ((with_reducible refine gate_dst (N := 2) rfl ?_); refine box_event ?hg (N := 2) ?hd (cs := #[.int .i64 a0_0, .int .i64 a0_1, .int .i64 a0_2, .int .i64 a0_3, .int .i64 a0_4, .int .i64 a0_5, .bool a0_6, .int .i64 a0_7, .int .i64 a0_8, .int .i64 a0_9, .int .i64 a0_10, .bool a0_11, .int .i64 a0_12, .slice A0_13 l0_13.length c0_13]) (t := 46) ?hr ?_; (case hd => rfl); (case hg => rfl); (case hr => first | (go_simp; done) | (go_simp; rfl)); intro gb409 hg w17 hbox hb; have BK409 := Aside0.mk (hbox); have GW409 := Aside0.mk ((by rw [hg]; exact (below_size (bl_ HB.out)) : w.heap.size ≤ gb409)); replace HB := Aside0.mk (below_step (bl_ HB.out) hb); have GE409 := GW409; clear hb hbox hg) | ((with_reducible refine gate_dst (N := 3) rfl ?_); refine box_event ?hg (N := 3) ?hd (cs := #[.slice A1 l1.length c1]) (t := 51) ?hr ?_; (case hd => rfl); (case hg => rfl); (case hr => first | (go_simp; done) | (go_simp; rfl)); intro gb410 hg w18 hbox hb; have BK410 := Aside0.mk (hbox); have GW410 := Aside0.mk ((by rw [hg]; exact (below_size (bl1_ HB.out GE409.out)) : w.heap.size ≤ gb410)); replace HB := Aside0.mk (below_step (bl1_ HB.out GE409.out) hb); have GE410 := GW410; have NB409_410 := Aside0.mk ((by rw [hg]; exact Nat.ne_of_lt (blk_lt (bk_ BK409.out)) : gb409 ≠ gb410)); have NB410_409 := Aside0.mk ((by rw [hg]; exact Nat.ne_of_gt (blk_lt (bk_ BK409.out)) : gb410 ≠ gb409)); replace BK409 := Aside0.mk (blk_below (bk_ BK409.out) hb); clear hb hbox hg; have hnb19 := NB409_410.out; have hnc19 := NB410_409.out; have hcz20 := blk_cell BK409.out; have hfz20 := blk_frozen BK409.out; have hfz20_13 := blk_frozen BK409.out 13))
   replace BK409 := Aside0.mk (blk_drew BK409.out)
   replace BK410 := Aside0.mk (blk_drew BK410.out)
   replace HB := Aside0.mk (below_drew1 HB.out)
   refine start_ (n := 12) (S := fun w' => w'.cell? ⟨gb409, 0, none⟩ = some (.int .i64 a0_0) ∧ w'.cell? ⟨gb409, 1, none⟩ = some (.int .i64 a0_1) ∧ w'.cell? ⟨gb409, 2, none⟩ = some (.int .i64 a0_2) ∧ w'.cell? ⟨gb409, 3, none⟩ = some (.int .i64 a0_3) ∧ w'.cell? ⟨gb409, 4, none⟩ = some (.int .i64 a0_4) ∧ w'.cell? ⟨gb409, 5, none⟩ = some (.int .i64 a0_5) ∧ w'.cell? ⟨gb409, 6, none⟩ = some (.bool a0_6) ∧ w'.cell? ⟨gb409, 7, none⟩ = some (.int .i64 a0_7) ∧ w'.cell? ⟨gb409, 8, none⟩ = some (.int .i64 a0_8) ∧ w'.cell? ⟨gb409, 9, none⟩ = some (.int .i64 a0_9) ∧ w'.cell? ⟨gb409, 10, none⟩ = some (.int .i64 a0_10) ∧ w'.cell? ⟨gb409, 11, none⟩ = some (.bool a0_11) ∧ w'.cell? ⟨gb409, 12, none⟩ = some (.int .i64 a0_12) ∧ w'.cell? ⟨gb409, 13, none⟩ = some (.slice A0_13 l0_13.length c0_13) ∧ w'.cell? ⟨gb410, 0, none⟩ = some (.slice A1 l1.length c1)) (ds := []) #[false, false, false, false, false, false, false, false, false, false, false, false] (by kernel_rfl) rfl rfl ⟨(blk_cell BK409.out 0).trans rfl, (blk_cell BK409.out 1).trans rfl, (blk_cell BK409.out 2).trans rfl, (blk_cell BK409.out 3).trans rfl, (blk_cell BK409.out 4).trans rfl, (blk_cell BK409.out 5).trans rfl, (blk_cell BK409.out 6).trans rfl, (blk_cell BK409.out 7).trans rfl, (blk_cell BK409.out 8).trans rfl, (blk_cell BK409.out 9).trans rfl, (blk_cell BK409.out 10).trans rfl, (blk_cell BK409.out 11).trans rfl, (blk_cell BK409.out 12).trans rfl, (blk_cell BK409.out 13).trans rfl, (blk_cell BK410.out 0).trans rfl⟩ (fun hHeld => ?_); refine with_tabW pred_Of.tab6 pred_Of.bits6 (fun HT_ HW_ => ?_)
   generalize w18.drew = w21 at BK409 BK410 HB hHeld ⊢
   refine pure_ (i := 0) (N := some 17) (v := ?_) (a' := ?_) #[true, false, false, false, false, false, false, false, false, false, false, false] rfl rfl (any_of HT_.out (by kernel_rfl)) (fun _ _ _ h => h) (Or.inl ⟨by rfl, ?_⟩) ?_ ?_
   rotate_left
   ·intro w'
    go_simp
    with_reducible rfl
   rotate_left
   ·simp only [Act.put, List.setIfInBounds_toArray, List.set_cons_zero, List.set_cons_succ, i64_w, i32_w]
    rfl
   refine pure_ (i := 2) (N := some 19) (v := ?_) (a' := ?_) #[true, false, true, false, false, false, false, false, false, false, false, false] rfl rfl (any_of HT_.out (by kernel_rfl)) (fun _ _ _ h => h) (Or.inl ⟨by rfl, ?_⟩) ?_ ?_
   rotate_left
   ·intro w'
    go_simp
    with_reducible rfl
   rotate_left
   ·simp only [Act.put, List.setIfInBounds_toArray, List.set_cons_zero, List.set_cons_succ, i64_w, i32_w]
    rfl
   refine pure_ (i := 6) (N := some 23) (v := ?_) (a' := ?_) #[true, false, true, false, false, false, true, false, false, false, false, false] rfl rfl (any_of HT_.out (by kernel_rfl)) (fun _ _ _ h => h) (Or.inl ⟨by rfl, ?_⟩) ?_ ?_
   rotate_left
   ·intro w'
    go_simp
    with_reducible rfl
   rotate_left
   ·simp only [Act.put, List.setIfInBounds_toArray, List.set_cons_zero, List.set_cons_succ, i64_w, i32_w]
    rfl
   refine take_ (i := 1) (N := some 18) (v := ?_) (a' := ?_) #[true, true, true, false, false, false, true, false, false, false, false, false] rfl rfl (take_ofW HT_.out HW_.out (by kernel_rfl)) (fun _ _ _ h => h) (Or.inl ⟨by rfl, ?_⟩) hHeld ?_ ?_
   rotate_left
   ·rintro w' ⟨s0, s1, s2, s3, s4, s5, s6, s7, s8, s9, s10, s11, s12, s13, s14⟩
    go_simp
    with_reducible rfl
   rotate_left
   ·simp only [Act.put, List.setIfInBounds_toArray, List.set_cons_zero, List.set_cons_succ, i64_w, i32_w]
    rfl
   refine take_ (i := 3) (N := some 20) (v := ?_) (a' := ?_) #[true, true, true, true, false, false, true, false, false, false, false, false] rfl rfl (take_ofW HT_.out HW_.out (by kernel_rfl)) (fun _ _ _ h => h) (Or.inl ⟨by rfl, ?_⟩) hHeld ?_ ?_
   rotate_left
   ·rintro w' ⟨s0, s1, s2, s3, s4, s5, s6, s7, s8, s9, s10, s11, s12, s13, s14⟩
    go_simp
    with_reducible rfl
   rotate_left
   ·simp only [Act.put, List.setIfInBounds_toArray, List.set_cons_zero, List.set_cons_succ, i64_w, i32_w]
    rfl
   refine take_ (i := 4) (N := some 21) (v := ?_) (a' := ?_) #[true, true, true, true, true, false, true, false, false, false, false, false] rfl rfl (take_ofW HT_.out HW_.out (by kernel_rfl)) (fun _ _ _ h => h) (Or.inl ⟨by rfl, ?_⟩) hHeld ?_ ?_
   rotate_left
   ·rintro w' ⟨s0, s1, s2, s3, s4, s5, s6, s7, s8, s9, s10, s11, s12, s13, s14⟩
    go_simp
    with_reducible rfl
   rotate_left
   ·simp only [Act.put, List.setIfInBounds_toArray, List.set_cons_zero, List.set_cons_succ, i64_w, i32_w]
    rfl
   refine take_ (i := 7) (N := some 24) (v := ?_) (a' := ?_) #[true, true, true, true, true, false, true, true, false, false, false, false] rfl rfl (take_ofW HT_.out HW_.out (by kernel_rfl)) (fun _ _ _ h => h) (Or.inl ⟨by rfl, ?_⟩) hHeld ?_ ?_
   rotate_left
   ·rintro w' ⟨s0, s1, s2, s3, s4, s5, s6, s7, s8, s9, s10, s11, s12, s13, s14⟩
    go_simp
    with_reducible rfl
   rotate_left
   ·simp only [Act.put, List.setIfInBounds_toArray, List.set_cons_zero, List.set_cons_succ, i64_w, i32_w]
    rfl
   refine take_ (i := 8) (N := some 25) (v := ?_) (a' := ?_) #[true, true, true, true, true, false, true, true, true, false, false, false] rfl rfl (take_ofW HT_.out HW_.out (by kernel_rfl)) (fun _ _ _ h => h) (Or.inl ⟨by rfl, ?_⟩) hHeld ?_ ?_
   rotate_left
   ·rintro w' ⟨s0, s1, s2, s3, s4, s5, s6, s7, s8, s9, s10, s11, s12, s13, s14⟩
    go_simp
    with_reducible rfl
   rotate_left
   ·simp only [Act.put, List.setIfInBounds_toArray, List.set_cons_zero, List.set_cons_succ, i64_w, i32_w]
    rfl
   refine one_ (i := 5) (N := some 22) #[true, true, true, true, true, true, true, true, true, false, false, false] rfl rfl (one_of HT_.out (by kernel_rfl)) (by decide) (fun K hK => ?_)
   refine goes_ Try.func69 (by kernel_rfl) rfl #[.agg #[.int .i64 a0_3, .int .i64 a0_4, .int .i64 a0_5, .bool a0_6, .int .i64 a0_7], .slice A1 l1.length c1] (by rfl) rfl rfl (by (try simp only [List.map_toArray, List.map_cons, List.map_nil]); first | done | rfl | (simp only [List.length_drop, List.length_take]; rfl)) ?_
   with_reducible refine (term_Of.calls a0_3 a0_4 a0_5 a0_6 a0_7 _ _ l1 t415 t416 _ ?side1 ?side2 A14.out).mono ?_
   (case side1 => exact cd_ (Kd.C_below HR1.out HB.out))
   (case side2 => exact HC1.out)
   rintro e w22 ⟨rfl, hb⟩
   refine ⟨_, rfl, ?_⟩
   replace BK409 := Aside0.mk (blk_below (bk_ BK409.out) hb)
   replace BK410 := Aside0.mk (blk_below (bk_ BK410.out) hb)
   replace HB := Aside0.mk (below_step (bl2_ HB.out GE409.out GE410.out) hb)
   (try clear hb)
   (try clear hb2)
   (try clear hk)
   (try clear hi)
   refine hK.out _ _ ⟨(blk_cell BK409.out 0).trans rfl, (blk_cell BK409.out 1).trans rfl, (blk_cell BK409.out 2).trans rfl, (blk_cell BK409.out 3).trans rfl, (blk_cell BK409.out 4).trans rfl, (blk_cell BK409.out 5).trans rfl, (blk_cell BK409.out 6).trans rfl, (blk_cell BK409.out 7).trans rfl, (blk_cell BK409.out 8).trans rfl, (blk_cell BK409.out 9).trans rfl, (blk_cell BK409.out 10).trans rfl, (blk_cell BK409.out 11).trans rfl, (blk_cell BK409.out 12).trans rfl, (blk_cell BK409.out 13).trans rfl, (blk_cell BK410.out 0).trans rfl⟩ (fun hHeld => ?_)
   clear hK K
   refine norm_ (a' := ?_) ?_ ?_
   rotate_left
   ·show Act.put _ (some 22) _ = _
    simp only [Act.put, List.setIfInBounds_toArray, List.set_cons_zero, List.set_cons_succ, i64_w, i32_w]
    rfl
   refine one_ (i := 9) (N := some 26) #[true, true, true, true, true, true, true, true, true, true, false, false] rfl rfl (one_of HT_.out (by kernel_rfl)) (by decide) (fun K hK => ?_)
   refine goes_ Try.func69 (by kernel_rfl) rfl #[.agg #[.int .i64 a0_8, .int .i64 a0_9, .int .i64 a0_10, .bool a0_11, .int .i64 a0_12], .slice A1 l1.length c1] (by rfl) rfl rfl (by (try simp only [List.map_toArray, List.map_cons, List.map_nil]); first | done | rfl | (simp only [List.length_drop, List.length_take]; rfl)) ?_
   with_reducible refine (term_Of.calls a0_8 a0_9 a0_10 a0_11 a0_12 _ _ l1 t417 t418 _ ?side1 ?side2 A15.out).mono ?_
   (case side1 => exact cd_ (Kd.C_below HR1.out HB.out))
   (case side2 => exact HC1.out)
   rintro e w23 ⟨rfl, hb⟩
   refine ⟨_, rfl, ?_⟩
   replace BK409 := Aside0.mk (blk_below (bk_ BK409.out) hb)
   replace BK410 := Aside0.mk (blk_below (bk_ BK410.out) hb)
   replace HB := Aside0.mk (below_step (bl2_ HB.out GE409.out GE410.out) hb)
   (try clear hb)
   (try clear hb2)
   (try clear hk)
   (try clear hi)
   refine hK.out _ _ ⟨(blk_cell BK409.out 0).trans rfl, (blk_cell BK409.out 1).trans rfl, (blk_cell BK409.out 2).trans rfl, (blk_cell BK409.out 3).trans rfl, (blk_cell BK409.out 4).trans rfl, (blk_cell BK409.out 5).trans rfl, (blk_cell BK409.out 6).trans rfl, (blk_cell BK409.out 7).trans rfl, (blk_cell BK409.out 8).trans rfl, (blk_cell BK409.out 9).trans rfl, (blk_cell BK409.out 10).trans rfl, (blk_cell BK409.out 11).trans rfl, (blk_cell BK409.out 12).trans rfl, (blk_cell BK409.out 13).trans rfl, (blk_cell BK410.out 0).trans rfl⟩ (fun hHeld => ?_)
   clear hK K
   refine norm_ (a' := ?_) ?_ ?_
   rotate_left
   ·show Act.put _ (some 26) _ = _
    simp only [Act.put, List.setIfInBounds_toArray, List.set_cons_zero, List.set_cons_succ, i64_w, i32_w]
    rfl
   refine one_ (i := 10) (N := some 27) #[true, true, true, true, true, true, true, true, true, true, true, false] rfl rfl (one_of HT_.out (by kernel_rfl)) (by decide) (fun K hK => ?_)
   refine goes_ Try.func68 (by kernel_rfl) rfl #[.int .i64 a0_2, .agg #[.bool t415, .int .i64 t416], .agg #[.bool t417, .int .i64 t418]] (by rfl) rfl rfl (by (try simp only [List.map_toArray, List.map_cons, List.map_nil]); first | done | rfl | (simp only [List.length_drop, List.length_take]; rfl)) ?_
   with_reducible refine (value_Compare.calls a0_2 t415 t416 t417 t418 t419 _ A16.out).mono ?_
   rintro e w24 ⟨rfl, hb⟩
   refine ⟨_, rfl, ?_⟩
   replace BK409 := Aside0.mk (blk_below (bk_ BK409.out) hb)
   replace BK410 := Aside0.mk (blk_below (bk_ BK410.out) hb)
   replace HB := Aside0.mk (below_step (bl2_ HB.out GE409.out GE410.out) hb)
   (try clear hb)
   (try clear hb2)
   (try clear hk)
   (try clear hi)
   refine hK.out _ _ ⟨(blk_cell BK409.out 0).trans rfl, (blk_cell BK409.out 1).trans rfl, (blk_cell BK409.out 2).trans rfl, (blk_cell BK409.out 3).trans rfl, (blk_cell BK409.out 4).trans rfl, (blk_cell BK409.out 5).trans rfl, (blk_cell BK409.out 6).trans rfl, (blk_cell BK409.out 7).trans rfl, (blk_cell BK409.out 8).trans rfl, (blk_cell BK409.out 9).trans rfl, (blk_cell BK409.out 10).trans rfl, (blk_cell BK409.out 11).trans rfl, (blk_cell BK409.out 12).trans rfl, (blk_cell BK409.out 13).trans rfl, (blk_cell BK410.out 0).trans rfl⟩ (fun hHeld => ?_)
   clear hK K
   refine norm_ (a' := ?_) ?_ ?_
   rotate_left
   ·show Act.put _ (some 27) _ = _
    simp only [Act.put, List.setIfInBounds_toArray, List.set_cons_zero, List.set_cons_succ, i64_w, i32_w]
    rfl
   refine pure_ (i := 11) (N := some 4) (v := ?_) (a' := ?_) #[true, true, true, true, true, true, true, true, true, true, true, true] rfl rfl (any_of HT_.out (by kernel_rfl)) (fun _ _ _ h => h) (Or.inl ⟨by rfl, ?_⟩) ?_ ?_
   rotate_left
   ·intro w'
    go_simp
    with_reducible rfl
   rotate_left
   ·simp only [Act.put, List.setIfInBounds_toArray, List.set_cons_zero, List.set_cons_succ, i64_w, i32_w]
    rfl
   refine done_ (done_of HT_.out (by kernel_rfl)) ?_
   try go_wp2
   go_ret
   exact ⟨by first | rfl | (simp [errW_none, errW_some] <;> rfl) | (simp [*, errW_none, errW_some] <;> rfl), by repeat (first | (with_reducible first | exact HB.out | apply below_alloc | apply pw_below_drewN | apply below_drew1 | refine below_set ?_ GE409.out | refine below_set ?_ GE410.out) | exact HB.out)⟩
  ·rw [if_neg c13] at H
   have c13b0 : (a0_0 == 2) = false := beq_eq_false_iff_ne.mpr c13
   have c13b1 : (a0_0 != 2) = true := bne_iff_ne.mpr c13
   by_cases c25 : a0_0 = 3
   ·rw [if_pos c25] at H
    have c25b0 : (a0_0 == 3) = true := beq_iff_eq.mpr c25
    have c25b1 : (a0_0 != 3) = false := bne_eq_false_iff_eq.mpr c25
    clear c25
    replace H := Option.bind_eq_some_iff.mp H
    obtain ⟨⟨t420, t421⟩, A260, H⟩ := H
    replace H : ((logic_Of.f t420).bind fun t422 => (some t422)) = some r := H
    have A26 := Aside0.mk A260
    clear A260
    replace H := Option.bind_eq_some_iff.mp H
    obtain ⟨t422, A270, H⟩ := H
    replace H : (some t422) = some r := H
    have A27 := Aside0.mk A270
    clear A270
    obtain rfl := Option.some.inj H
    go_enter Try.func31, Try.ntmps31
    go_wp2_with (first | ((with_reducible refine gate_dst (N := 2) rfl ?_); refine box_event ?hg (N := 2) ?hd (cs := #[.int .i64 a0_0, .int .i64 a0_1, .int .i64 a0_2, .int .i64 a0_3, .int .i64 a0_4, .int .i64 a0_5, .bool a0_6, .int .i64 a0_7, .int .i64 a0_8, .int .i64 a0_9, .int .i64 a0_10, .bool a0_11, .int .i64 a0_12, .slice A0_13 l0_13.length c0_13]) (t := 46) ?hr ?_; (case hd => rfl); (case hg => rfl); (case hr => first | (go_simp; done) | (go_simp; rfl)); intro gb409 hg w28 hbox hb; have BK409 := Aside0.mk (hbox); have GW409 := Aside0.mk ((by rw [hg]; exact (below_size (bl_ HB.out)) : w.heap.size ≤ gb409)); replace HB := Aside0.mk (below_step (bl_ HB.out) hb); have GE409 := GW409; clear hb hbox hg) | ((with_reducible refine gate_dst (N := 3) rfl ?_); refine box_event ?hg (N := 3) ?hd (cs := #[.slice A1 l1.length c1]) (t := 51) ?hr ?_; (case hd => rfl); (case hg => rfl); (case hr => first | (go_simp; done) | (go_simp; rfl)); intro gb410 hg w29 hbox hb; have BK410 := Aside0.mk (hbox); have GW410 := Aside0.mk ((by rw [hg]; exact (below_size (bl1_ HB.out GE409.out)) : w.heap.size ≤ gb410)); replace HB := Aside0.mk (below_step (bl1_ HB.out GE409.out) hb); have GE410 := GW410; have NB409_410 := Aside0.mk ((by rw [hg]; exact Nat.ne_of_lt (blk_lt (bk_ BK409.out)) : gb409 ≠ gb410)); have NB410_409 := Aside0.mk ((by rw [hg]; exact Nat.ne_of_gt (blk_lt (bk_ BK409.out)) : gb410 ≠ gb409)); replace BK409 := Aside0.mk (blk_below (bk_ BK409.out) hb); clear hb hbox hg; have hnb30 := NB409_410.out; have hnc30 := NB410_409.out; have hcz31 := blk_cell BK409.out; have hfz31 := blk_frozen BK409.out; have hcz32_0 : w29.cell? ⟨gb410, 0, none⟩ = some (.slice A1 l1.length c1) := (blk_cell BK410.out 0).trans rfl; have hfz32_0 := blk_frozen BK410.out 0) | ((with_reducible refine gate_callee (f := 69) rfl ?_); refine goesL_ (some 33) rfl rfl Try.func69 (by kernel_rfl) rfl #[.agg #[.int .i64 a0_3, .int .i64 a0_4, .int .i64 a0_5, .bool a0_6, .int .i64 a0_7], .slice A1 l1.length c1] rfl (by (try simp only [List.map_toArray, List.map_cons, List.map_nil]); first | done | rfl | (simp only [List.length_drop, List.length_take]; rfl)) ?_; (with_reducible refine (term_Of.calls a0_3 a0_4 a0_5 a0_6 a0_7 _ _ l1 t420 t421 _ ?side1 ?side2 A26.out).mono ?_); (case side1 => exact cd_ (Kd.C_below HR1.out HB.out)); (case side2 => exact HC1.out); rintro e w33 ⟨rfl, hb⟩; refine ⟨_, rfl, ?_⟩; replace BK409 := Aside0.mk (blk_below (bk_ BK409.out) hb); replace BK410 := Aside0.mk (blk_below (bk_ BK410.out) hb); replace HB := Aside0.mk (below_step (bl2_ HB.out GE409.out GE410.out) hb); (try clear hb)) | ((with_reducible refine gate_callee (f := 70) rfl ?_); refine goesL_ (some 35) rfl rfl Try.func70 (by kernel_rfl) rfl #[.bool t420] rfl (by (try simp only [List.map_toArray, List.map_cons, List.map_nil]); first | done | rfl | (simp only [List.length_drop, List.length_take]; rfl)) ?_; (with_reducible refine (logic_Of.calls t420 t422 _ A27.out).mono ?_); rintro e w' ⟨rfl, ⟨nd, rfl⟩⟩; refine ⟨_, rfl, ?_⟩))
    go_ret
    exact ⟨by first | rfl | (simp [errW_none, errW_some] <;> rfl) | (simp [*, errW_none, errW_some] <;> rfl), by repeat (first | (with_reducible first | exact HB.out | apply below_alloc | apply pw_below_drewN | apply below_drew1 | refine below_set ?_ GE409.out | refine below_set ?_ GE410.out) | exact HB.out)⟩
   ·rw [if_neg c25] at H
    have c25b0 : (a0_0 == 3) = false := beq_eq_false_iff_ne.mpr c25
    have c25b1 : (a0_0 != 3) = true := bne_iff_ne.mpr c25
    by_cases c34 : a0_0 = 4
    ·rw [if_pos c34] at H
     have c34b0 : (a0_0 == 4) = true := beq_iff_eq.mpr c34
     have c34b1 : (a0_0 != 4) = false := bne_eq_false_iff_eq.mpr c34
     clear c34
     replace H := Option.bind_eq_some_iff.mp H
     obtain ⟨t423, A350, H⟩ := H
     replace H : ((logic_And.f k t423).bind fun t426 => (some t426)) = some r := H
     have A35 := Aside0.mk A350
     clear A350
     replace H := Option.bind_eq_some_iff.mp H
     obtain ⟨t426, A360, H⟩ := H
     replace H : (some t426) = some r := H
     have A36 := Aside0.mk A360
     clear A360
     obtain rfl := Option.some.inj H
     go_enter Try.func31, Try.ntmps31
     go_wp2_with (first | ((with_reducible refine gate_dst (N := 2) rfl ?_); refine box_event ?hg (N := 2) ?hd (cs := #[.int .i64 a0_0, .int .i64 a0_1, .int .i64 a0_2, .int .i64 a0_3, .int .i64 a0_4, .int .i64 a0_5, .bool a0_6, .int .i64 a0_7, .int .i64 a0_8, .int .i64 a0_9, .int .i64 a0_10, .bool a0_11, .int .i64 a0_12, .slice A0_13 l0_13.length c0_13]) (t := 46) ?hr ?_; (case hd => rfl); (case hg => rfl); (case hr => first | (go_simp; done) | (go_simp; rfl)); intro gb409 hg w37 hbox hb; have BK409 := Aside0.mk (hbox); have GW409 := Aside0.mk ((by rw [hg]; exact (below_size (bl_ HB.out)) : w.heap.size ≤ gb409)); replace HB := Aside0.mk (below_step (bl_ HB.out) hb); have GE409 := GW409; clear hb hbox hg) | ((with_reducible refine gate_dst (N := 3) rfl ?_); refine box_event ?hg (N := 3) ?hd (cs := #[.slice A1 l1.length c1]) (t := 51) ?hr ?_; (case hd => rfl); (case hg => rfl); (case hr => first | (go_simp; done) | (go_simp; rfl)); intro gb410 hg w38 hbox hb; have BK410 := Aside0.mk (hbox); have GW410 := Aside0.mk ((by rw [hg]; exact (below_size (bl1_ HB.out GE409.out)) : w.heap.size ≤ gb410)); replace HB := Aside0.mk (below_step (bl1_ HB.out GE409.out) hb); have GE410 := GW410; have NB409_410 := Aside0.mk ((by rw [hg]; exact Nat.ne_of_lt (blk_lt (bk_ BK409.out)) : gb409 ≠ gb410)); have NB410_409 := Aside0.mk ((by rw [hg]; exact Nat.ne_of_gt (blk_lt (bk_ BK409.out)) : gb410 ≠ gb409)); replace BK409 := Aside0.mk (blk_below (bk_ BK409.out) hb); clear hb hbox hg; have hnb39 := NB409_410.out; have hnc39 := NB410_409.out; have hcz40 := blk_cell BK409.out; have hfz40 := blk_frozen BK409.out; have hfz40_13 := blk_frozen BK409.out 13) | ((with_reducible refine gate_calleev (t := 38) rfl ?_); refine goesV_ (caps := #[.pointer (some ⟨gb409, 0, none⟩), .pointer (some ⟨gb410, 0, none⟩)]) (some 39) rfl rfl Try.func67 (by kernel_rfl) rfl #[.pointer (some ⟨gb409, 0, none⟩), .pointer (some ⟨gb410, 0, none⟩)] rfl rfl (by (try simp only [List.map_toArray, List.map_cons, List.map_nil]); first | done | rfl | (simp only [List.length_drop, List.length_take]; rfl)) ?_; (with_reducible refine (ihg_pred_Of_1 k (by omega) gb409 a0_0 a0_1 a0_2 a0_3 a0_4 a0_5 a0_6 a0_7 a0_8 a0_9 a0_10 a0_11 a0_12 A0_13 c0_13 l0_13 gb410 A1 c1 l1 t423 _ ?side1 ?side2 ?side3 ?side4 ?side5 ?side6 A35.out).mono ?_); (case side1 => exact bk_ BK409.out); (case side2 => exact cd_ (Kd.C_below HR0_13.out HB.out)); (case side3 => exact HC0_13.out); (case side4 => exact bk_ BK410.out); (case side5 => exact cd_ (Kd.C_below HR1.out HB.out)); (case side6 => exact HC1.out); rintro e w41 ⟨v424, rfl, ho0, hb⟩; refine ⟨_, rfl, ?_⟩; have HO425 := Aside0.mk (Kd.R_lower ho0 (below_size (bl2_ HB.out GE409.out GE410.out))); replace BK409 := Aside0.mk (blk_below (bk_ BK409.out) hb); replace BK410 := Aside0.mk (blk_below (bk_ BK410.out) hb); replace HB := Aside0.mk (below_step (bl2_ HB.out GE409.out GE410.out) hb); (try clear hb); (try clear ho0); obtain ⟨Ao42, co42, eo42⟩ := Kd.R_slice HO425.out; subst eo42) | ((with_reducible refine gate_callee (f := 60) rfl ?_); refine goesL_ (some 40) rfl rfl Try.func60 (by kernel_rfl) rfl #[.slice Ao42 t423.length co42] rfl (by (try simp only [List.map_toArray, List.map_cons, List.map_nil]); first | done | rfl | (simp only [List.length_drop, List.length_take]; rfl)) ?_; (with_reducible refine (logic_And.calls k _ _ t423 t426 _ ?side1 ?side2 A36.out).mono ?_); (case side1 => exact cd_ ((Kd.R_reads' HO425.out).2.2)); (case side2 => exact (Kd.R_reads' HO425.out).2.1); rintro e w43 ⟨rfl, hb⟩; refine ⟨_, rfl, ?_⟩; replace HO425 := Aside0.mk (Kd.R_below (rd_ HO425.out) hb); replace BK409 := Aside0.mk (blk_below (bk_ BK409.out) hb); replace BK410 := Aside0.mk (blk_below (bk_ BK410.out) hb); replace HB := Aside0.mk (below_step (bl2_ HB.out GE409.out GE410.out) hb); (try clear hb)))
     go_ret
     exact ⟨by first | rfl | (simp [errW_none, errW_some] <;> rfl) | (simp [*, errW_none, errW_some] <;> rfl), by repeat (first | (with_reducible first | exact HB.out | apply below_alloc | apply pw_below_drewN | apply below_drew1 | refine below_set ?_ GE409.out | refine below_set ?_ GE410.out) | exact HB.out)⟩
    ·rw [if_neg c34] at H
     have c34b0 : (a0_0 == 4) = false := beq_eq_false_iff_ne.mpr c34
     have c34b1 : (a0_0 != 4) = true := bne_iff_ne.mpr c34
     by_cases c44 : a0_0 = 5
     ·rw [if_pos c44] at H
      have c44b0 : (a0_0 == 5) = true := beq_iff_eq.mpr c44
      have c44b1 : (a0_0 != 5) = false := bne_eq_false_iff_eq.mpr c44
      clear c44
      replace H := Option.bind_eq_some_iff.mp H
      obtain ⟨t427, A450, H⟩ := H
      replace H : ((logic_Or.f k t427).bind fun t430 => (some t430)) = some r := H
      have A45 := Aside0.mk A450
      clear A450
      replace H := Option.bind_eq_some_iff.mp H
      obtain ⟨t430, A460, H⟩ := H
      replace H : (some t430) = some r := H
      have A46 := Aside0.mk A460
      clear A460
      obtain rfl := Option.some.inj H
      go_enter Try.func31, Try.ntmps31
      go_wp2_with (first | ((with_reducible refine gate_dst (N := 2) rfl ?_); refine box_event ?hg (N := 2) ?hd (cs := #[.int .i64 a0_0, .int .i64 a0_1, .int .i64 a0_2, .int .i64 a0_3, .int .i64 a0_4, .int .i64 a0_5, .bool a0_6, .int .i64 a0_7, .int .i64 a0_8, .int .i64 a0_9, .int .i64 a0_10, .bool a0_11, .int .i64 a0_12, .slice A0_13 l0_13.length c0_13]) (t := 46) ?hr ?_; (case hd => rfl); (case hg => rfl); (case hr => first | (go_simp; done) | (go_simp; rfl)); intro gb409 hg w47 hbox hb; have BK409 := Aside0.mk (hbox); have GW409 := Aside0.mk ((by rw [hg]; exact (below_size (bl_ HB.out)) : w.heap.size ≤ gb409)); replace HB := Aside0.mk (below_step (bl_ HB.out) hb); have GE409 := GW409; clear hb hbox hg) | ((with_reducible refine gate_dst (N := 3) rfl ?_); refine box_event ?hg (N := 3) ?hd (cs := #[.slice A1 l1.length c1]) (t := 51) ?hr ?_; (case hd => rfl); (case hg => rfl); (case hr => first | (go_simp; done) | (go_simp; rfl)); intro gb410 hg w48 hbox hb; have BK410 := Aside0.mk (hbox); have GW410 := Aside0.mk ((by rw [hg]; exact (below_size (bl1_ HB.out GE409.out)) : w.heap.size ≤ gb410)); replace HB := Aside0.mk (below_step (bl1_ HB.out GE409.out) hb); have GE410 := GW410; have NB409_410 := Aside0.mk ((by rw [hg]; exact Nat.ne_of_lt (blk_lt (bk_ BK409.out)) : gb409 ≠ gb410)); have NB410_409 := Aside0.mk ((by rw [hg]; exact Nat.ne_of_gt (blk_lt (bk_ BK409.out)) : gb410 ≠ gb409)); replace BK409 := Aside0.mk (blk_below (bk_ BK409.out) hb); clear hb hbox hg; have hnb49 := NB409_410.out; have hnc49 := NB410_409.out; have hcz50 := blk_cell BK409.out; have hfz50 := blk_frozen BK409.out; have hfz50_13 := blk_frozen BK409.out 13) | ((with_reducible refine gate_calleev (t := 43) rfl ?_); refine goesV_ (caps := #[.pointer (some ⟨gb409, 0, none⟩), .pointer (some ⟨gb410, 0, none⟩)]) (some 44) rfl rfl Try.func67 (by kernel_rfl) rfl #[.pointer (some ⟨gb409, 0, none⟩), .pointer (some ⟨gb410, 0, none⟩)] rfl rfl (by (try simp only [List.map_toArray, List.map_cons, List.map_nil]); first | done | rfl | (simp only [List.length_drop, List.length_take]; rfl)) ?_; (with_reducible refine (ihg_pred_Of_1 k (by omega) gb409 a0_0 a0_1 a0_2 a0_3 a0_4 a0_5 a0_6 a0_7 a0_8 a0_9 a0_10 a0_11 a0_12 A0_13 c0_13 l0_13 gb410 A1 c1 l1 t427 _ ?side1 ?side2 ?side3 ?side4 ?side5 ?side6 A45.out).mono ?_); (case side1 => exact bk_ BK409.out); (case side2 => exact cd_ (Kd.C_below HR0_13.out HB.out)); (case side3 => exact HC0_13.out); (case side4 => exact bk_ BK410.out); (case side5 => exact cd_ (Kd.C_below HR1.out HB.out)); (case side6 => exact HC1.out); rintro e w51 ⟨v428, rfl, ho0, hb⟩; refine ⟨_, rfl, ?_⟩; have HO429 := Aside0.mk (Kd.R_lower ho0 (below_size (bl2_ HB.out GE409.out GE410.out))); replace BK409 := Aside0.mk (blk_below (bk_ BK409.out) hb); replace BK410 := Aside0.mk (blk_below (bk_ BK410.out) hb); replace HB := Aside0.mk (below_step (bl2_ HB.out GE409.out GE410.out) hb); (try clear hb); (try clear ho0); obtain ⟨Ao52, co52, eo52⟩ := Kd.R_slice HO429.out; subst eo52) | ((with_reducible refine gate_callee (f := 61) rfl ?_); refine goesL_ (some 45) rfl rfl Try.func61 (by kernel_rfl) rfl #[.slice Ao52 t427.length co52] rfl (by (try simp only [List.map_toArray, List.map_cons, List.map_nil]); first | done | rfl | (simp only [List.length_drop, List.length_take]; rfl)) ?_; (with_reducible refine (logic_Or.calls k _ _ t427 t430 _ ?side1 ?side2 A46.out).mono ?_); (case side1 => exact cd_ ((Kd.R_reads' HO429.out).2.2)); (case side2 => exact (Kd.R_reads' HO429.out).2.1); rintro e w53 ⟨rfl, hb⟩; refine ⟨_, rfl, ?_⟩; replace HO429 := Aside0.mk (Kd.R_below (rd_ HO429.out) hb); replace BK409 := Aside0.mk (blk_below (bk_ BK409.out) hb); replace BK410 := Aside0.mk (blk_below (bk_ BK410.out) hb); replace HB := Aside0.mk (below_step (bl2_ HB.out GE409.out GE410.out) hb); (try clear hb)))
      go_ret
      exact ⟨by first | rfl | (simp [errW_none, errW_some] <;> rfl) | (simp [*, errW_none, errW_some] <;> rfl), by repeat (first | (with_reducible first | exact HB.out | apply below_alloc | apply pw_below_drewN | apply below_drew1 | refine below_set ?_ GE409.out | refine below_set ?_ GE410.out) | exact HB.out)⟩
     ·rw [if_neg c44] at H
      have c44b0 : (a0_0 == 5) = false := beq_eq_false_iff_ne.mpr c44
      have c44b1 : (a0_0 != 5) = true := bne_iff_ne.mpr c44
      by_cases c54 : a0_0 = 6
      ·rw [if_pos c54] at H
       have c54b0 : (a0_0 == 6) = true := beq_iff_eq.mpr c54
       have c54b1 : (a0_0 != 6) = false := bne_eq_false_iff_eq.mpr c54
       clear c54
       by_cases c55 : (l0_13.length : Int) > 0
       ·rw [if_pos c55] at H
        have c55b0 : decide (0 < (l0_13.length : Int)) = true := decide_eq_true c55
        have c55b1 : decide (0 < l0_13.length) = true := decide_eq_true (by omega)
        clear c55
        by_cases c56 : 0 < (l0_13.length : Int)
        ·rw [if_pos c56] at H
         have c56b0 : decide (0 < (l0_13.length : Int)) = true := decide_eq_true c56
         have c56b1 : decide (0 < l0_13.length) = true := decide_eq_true (by omega)
         clear c56
         replace H := Option.bind_eq_some_iff.mp H
         obtain ⟨t432, A570, H⟩ := H
         replace H : ((logic_Not.f t432).bind fun t433 => (some t433)) = some r := H
         have A57 := Aside0.mk A570
         clear A570
         replace H := Option.bind_eq_some_iff.mp H
         obtain ⟨t433, A580, H⟩ := H
         replace H : (some t433) = some r := H
         have A58 := Aside0.mk A580
         clear A580
         obtain rfl := Option.some.inj H
         go_enter Try.func31, Try.ntmps31
         try go_wp2_with (first | ((with_reducible refine gate_dst (N := 2) rfl ?_); refine box_event ?hg (N := 2) ?hd (cs := #[.int .i64 a0_0, .int .i64 a0_1, .int .i64 a0_2, .int .i64 a0_3, .int .i64 a0_4, .int .i64 a0_5, .bool a0_6, .int .i64 a0_7, .int .i64 a0_8, .int .i64 a0_9, .int .i64 a0_10, .bool a0_11, .int .i64 a0_12, .slice A0_13 l0_13.length c0_13]) (t := 46) ?hr ?_; (case hd => rfl); (case hg => rfl); (case hr => first | (go_simp; done) | (go_simp; rfl)); intro gb409 hg w59 hbox hb; have BK409 := Aside0.mk (hbox); have GW409 := Aside0.mk ((by rw [hg]; exact (below_size (bl_ HB.out)) : w.heap.size ≤ gb409)); replace HB := Aside0.mk (below_step (bl_ HB.out) hb); have GE409 := GW409; clear hb hbox hg) | ((with_reducible refine gate_dst (N := 3) rfl ?_); refine box_event ?hg (N := 3) ?hd (cs := #[.slice A1 l1.length c1]) (t := 51) ?hr ?_; (case hd => rfl); (case hg => rfl); (case hr => first | (go_simp; done) | (go_simp; rfl)); intro gb410 hg w60 hbox hb; have BK410 := Aside0.mk (hbox); have GW410 := Aside0.mk ((by rw [hg]; exact (below_size (bl1_ HB.out GE409.out)) : w.heap.size ≤ gb410)); replace HB := Aside0.mk (below_step (bl1_ HB.out GE409.out) hb); have GE410 := GW410; have NB409_410 := Aside0.mk ((by rw [hg]; exact Nat.ne_of_lt (blk_lt (bk_ BK409.out)) : gb409 ≠ gb410)); have NB410_409 := Aside0.mk ((by rw [hg]; exact Nat.ne_of_gt (blk_lt (bk_ BK409.out)) : gb410 ≠ gb409)); replace BK409 := Aside0.mk (blk_below (bk_ BK409.out) hb); clear hb hbox hg; have hnb61 := NB409_410.out; have hnc61 := NB410_409.out; have hcz62 := blk_cell BK409.out; have hfz62 := blk_frozen BK409.out; have hfz62_13 := blk_frozen BK409.out 13))
         replace BK409 := Aside0.mk (blk_drew BK409.out)
         replace BK410 := Aside0.mk (blk_drew BK410.out)
         replace HB := Aside0.mk (below_drew1 HB.out)
         have p431 : 0 ≤ (0 : Int) := (by omega)
         have q431 : 0 < (l0_13.length : Int) := of_decide_eq_true (by first | (with_reducible assumption) | assumption)
         obtain ⟨ad431, A431_13, c431_13, e431, hx431_0, hx431_1, hx431_2, hx431_3, hx431_4, hx431_5, hx431_6, hx431_7, hx431_8, hx431_9, hx431_10, hx431_11, hx431_12, hx431_13, hl431_13, hi431_13⟩ := at_T46 HR0_13.out 0 p431 q431
         have hw431_13 := hx431_13
         (try rw [show ((0 : Int)).toNat = 0 from rfl] at hw431_13)
         (try rw [show 0 * 14 = 0 from rfl] at hw431_13)
         (try rw [Addr.add_zero'] at hw431_13)
         have hw431_12 := hx431_12
         (try rw [show ((0 : Int)).toNat = 0 from rfl] at hw431_12)
         (try rw [show 0 * 14 = 0 from rfl] at hw431_12)
         (try rw [Addr.add_zero'] at hw431_12)
         have hw431_11 := hx431_11
         (try rw [show ((0 : Int)).toNat = 0 from rfl] at hw431_11)
         (try rw [show 0 * 14 = 0 from rfl] at hw431_11)
         (try rw [Addr.add_zero'] at hw431_11)
         have hw431_10 := hx431_10
         (try rw [show ((0 : Int)).toNat = 0 from rfl] at hw431_10)
         (try rw [show 0 * 14 = 0 from rfl] at hw431_10)
         (try rw [Addr.add_zero'] at hw431_10)
         have hw431_9 := hx431_9
         (try rw [show ((0 : Int)).toNat = 0 from rfl] at hw431_9)
         (try rw [show 0 * 14 = 0 from rfl] at hw431_9)
         (try rw [Addr.add_zero'] at hw431_9)
         have hw431_8 := hx431_8
         (try rw [show ((0 : Int)).toNat = 0 from rfl] at hw431_8)
         (try rw [show 0 * 14 = 0 from rfl] at hw431_8)
         (try rw [Addr.add_zero'] at hw431_8)
         have hw431_7 := hx431_7
         (try rw [show ((0 : Int)).toNat = 0 from rfl] at hw431_7)
         (try rw [show 0 * 14 = 0 from rfl] at hw431_7)
         (try rw [Addr.add_zero'] at hw431_7)
         have hw431_6 := hx431_6
         (try rw [show ((0 : Int)).toNat = 0 from rfl] at hw431_6)
         (try rw [show 0 * 14 = 0 from rfl] at hw431_6)
         (try rw [Addr.add_zero'] at hw431_6)
         have hw431_5 := hx431_5
         (try rw [show ((0 : Int)).toNat = 0 from rfl] at hw431_5)
         (try rw [show 0 * 14 = 0 from rfl] at hw431_5)
         (try rw [Addr.add_zero'] at hw431_5)
         have hw431_4 := hx431_4
         (try rw [show ((0 : Int)).toNat = 0 from rfl] at hw431_4)
         (try rw [show 0 * 14 = 0 from rfl] at hw431_4)
         (try rw [Addr.add_zero'] at hw431_4)
         have hw431_3 := hx431_3
         (try rw [show ((0 : Int)).toNat = 0 from rfl] at hw431_3)
         (try rw [show 0 * 14 = 0 from rfl] at hw431_3)
         (try rw [Addr.add_zero'] at hw431_3)
         have hw431_2 := hx431_2
         (try rw [show ((0 : Int)).toNat = 0 from rfl] at hw431_2)
         (try rw [show 0 * 14 = 0 from rfl] at hw431_2)
         (try rw [Addr.add_zero'] at hw431_2)
         have hw431_1 := hx431_1
         (try rw [show ((0 : Int)).toNat = 0 from rfl] at hw431_1)
         (try rw [show 0 * 14 = 0 from rfl] at hw431_1)
         (try rw [Addr.add_zero'] at hw431_1)
         have hw431_0 := hx431_0
         (try rw [show ((0 : Int)).toNat = 0 from rfl] at hw431_0)
         (try rw [show 0 * 14 = 0 from rfl] at hw431_0)
         (try rw [Addr.add_zero'] at hw431_0)
         cases e431
         have qi431 : (0 < l0_13.length) = True := eq_true (by omega)
         (try rw [show ((0 : Int)).toNat = 0 from rfl] at hx431_0)
         (try rw [show 0 * 14 = 0 from rfl] at hx431_0)
         (try rw [Addr.add_zero'] at hx431_0)
         (try rw [show ((0 : Int)).toNat = 0 from rfl] at hx431_1)
         (try rw [show 0 * 14 = 0 from rfl] at hx431_1)
         (try rw [Addr.add_zero'] at hx431_1)
         (try rw [show ((0 : Int)).toNat = 0 from rfl] at hx431_2)
         (try rw [show 0 * 14 = 0 from rfl] at hx431_2)
         (try rw [Addr.add_zero'] at hx431_2)
         (try rw [show ((0 : Int)).toNat = 0 from rfl] at hx431_3)
         (try rw [show 0 * 14 = 0 from rfl] at hx431_3)
         (try rw [Addr.add_zero'] at hx431_3)
         (try rw [show ((0 : Int)).toNat = 0 from rfl] at hx431_4)
         (try rw [show 0 * 14 = 0 from rfl] at hx431_4)
         (try rw [Addr.add_zero'] at hx431_4)
         (try rw [show ((0 : Int)).toNat = 0 from rfl] at hx431_5)
         (try rw [show 0 * 14 = 0 from rfl] at hx431_5)
         (try rw [Addr.add_zero'] at hx431_5)
         (try rw [show ((0 : Int)).toNat = 0 from rfl] at hx431_6)
         (try rw [show 0 * 14 = 0 from rfl] at hx431_6)
         (try rw [Addr.add_zero'] at hx431_6)
         (try rw [show ((0 : Int)).toNat = 0 from rfl] at hx431_7)
         (try rw [show 0 * 14 = 0 from rfl] at hx431_7)
         (try rw [Addr.add_zero'] at hx431_7)
         (try rw [show ((0 : Int)).toNat = 0 from rfl] at hx431_8)
         (try rw [show 0 * 14 = 0 from rfl] at hx431_8)
         (try rw [Addr.add_zero'] at hx431_8)
         (try rw [show ((0 : Int)).toNat = 0 from rfl] at hx431_9)
         (try rw [show 0 * 14 = 0 from rfl] at hx431_9)
         (try rw [Addr.add_zero'] at hx431_9)
         (try rw [show ((0 : Int)).toNat = 0 from rfl] at hx431_10)
         (try rw [show 0 * 14 = 0 from rfl] at hx431_10)
         (try rw [Addr.add_zero'] at hx431_10)
         (try rw [show ((0 : Int)).toNat = 0 from rfl] at hx431_11)
         (try rw [show 0 * 14 = 0 from rfl] at hx431_11)
         (try rw [Addr.add_zero'] at hx431_11)
         (try rw [show ((0 : Int)).toNat = 0 from rfl] at hx431_12)
         (try rw [show 0 * 14 = 0 from rfl] at hx431_12)
         (try rw [Addr.add_zero'] at hx431_12)
         (try rw [show ((0 : Int)).toNat = 0 from rfl] at hx431_13)
         (try rw [show 0 * 14 = 0 from rfl] at hx431_13)
         (try rw [Addr.add_zero'] at hx431_13)
         replace hx431_0 := (HB.out.cell (World.block_lt_of_cell? w _ hx431_0)).trans hx431_0
         replace hx431_1 := (HB.out.cell (World.block_lt_of_cell? w _ hx431_1)).trans hx431_1
         replace hx431_2 := (HB.out.cell (World.block_lt_of_cell? w _ hx431_2)).trans hx431_2
         replace hx431_3 := (HB.out.cell (World.block_lt_of_cell? w _ hx431_3)).trans hx431_3
         replace hx431_4 := (HB.out.cell (World.block_lt_of_cell? w _ hx431_4)).trans hx431_4
         replace hx431_5 := (HB.out.cell (World.block_lt_of_cell? w _ hx431_5)).trans hx431_5
         replace hx431_6 := (HB.out.cell (World.block_lt_of_cell? w _ hx431_6)).trans hx431_6
         replace hx431_7 := (HB.out.cell (World.block_lt_of_cell? w _ hx431_7)).trans hx431_7
         replace hx431_8 := (HB.out.cell (World.block_lt_of_cell? w _ hx431_8)).trans hx431_8
         replace hx431_9 := (HB.out.cell (World.block_lt_of_cell? w _ hx431_9)).trans hx431_9
         replace hx431_10 := (HB.out.cell (World.block_lt_of_cell? w _ hx431_10)).trans hx431_10
         replace hx431_11 := (HB.out.cell (World.block_lt_of_cell? w _ hx431_11)).trans hx431_11
         replace hx431_12 := (HB.out.cell (World.block_lt_of_cell? w _ hx431_12)).trans hx431_12
         replace hx431_13 := (HB.out.cell (World.block_lt_of_cell? w _ hx431_13)).trans hx431_13
         have HR431_13 := Aside0.mk hi431_13
         have HC431_13 := Aside0.mk hl431_13
         clear hi431_13 hl431_13
         replace p431 := eq_true p431
         replace q431 := eq_true q431
         refine start_ (n := 8) (S := fun w' => w'.cell? ⟨gb409, 0, none⟩ = some (.int .i64 a0_0) ∧ w'.cell? ⟨gb409, 1, none⟩ = some (.int .i64 a0_1) ∧ w'.cell? ⟨gb409, 2, none⟩ = some (.int .i64 a0_2) ∧ w'.cell? ⟨gb409, 3, none⟩ = some (.int .i64 a0_3) ∧ w'.cell? ⟨gb409, 4, none⟩ = some (.int .i64 a0_4) ∧ w'.cell? ⟨gb409, 5, none⟩ = some (.int .i64 a0_5) ∧ w'.cell? ⟨gb409, 6, none⟩ = some (.bool a0_6) ∧ w'.cell? ⟨gb409, 7, none⟩ = some (.int .i64 a0_7) ∧ w'.cell? ⟨gb409, 8, none⟩ = some (.int .i64 a0_8) ∧ w'.cell? ⟨gb409, 9, none⟩ = some (.int .i64 a0_9) ∧ w'.cell? ⟨gb409, 10, none⟩ = some (.int .i64 a0_10) ∧ w'.cell? ⟨gb409, 11, none⟩ = some (.bool a0_11) ∧ w'.cell? ⟨gb409, 12, none⟩ = some (.int .i64 a0_12) ∧ w'.cell? ⟨gb409, 13, none⟩ = some (.slice (some ad431) l0_13.length c0_13) ∧ w'.cell? ⟨gb410, 0, none⟩ = some (.slice A1 l1.length c1) ∧ w'.cell? ad431 = some (.int .i64 ((rd_T46 l0_13 0).f0)) ∧ w'.cell? ⟨ad431.block, ad431.off + 1, none⟩ = some (.int .i64 ((rd_T46 l0_13 0).f1)) ∧ w'.cell? ⟨ad431.block, ad431.off + 2, none⟩ = some (.int .i64 ((rd_T46 l0_13 0).f2)) ∧ w'.cell? ⟨ad431.block, ad431.off + 3, none⟩ = some (.int .i64 ((rd_T46 l0_13 0).f3.f0)) ∧ w'.cell? ⟨ad431.block, ad431.off + 4, none⟩ = some (.int .i64 ((rd_T46 l0_13 0).f3.f1)) ∧ w'.cell? ⟨ad431.block, ad431.off + 5, none⟩ = some (.int .i64 ((rd_T46 l0_13 0).f3.f2)) ∧ w'.cell? ⟨ad431.block, ad431.off + 6, none⟩ = some (.bool ((rd_T46 l0_13 0).f3.f3.f0)) ∧ w'.cell? ⟨ad431.block, ad431.off + 7, none⟩ = some (.int .i64 ((rd_T46 l0_13 0).f3.f3.f1)) ∧ w'.cell? ⟨ad431.block, ad431.off + 8, none⟩ = some (.int .i64 ((rd_T46 l0_13 0).f4.f0)) ∧ w'.cell? ⟨ad431.block, ad431.off + 9, none⟩ = some (.int .i64 ((rd_T46 l0_13 0).f4.f1)) ∧ w'.cell? ⟨ad431.block, ad431.off + 10, none⟩ = some (.int .i64 ((rd_T46 l0_13 0).f4.f2)) ∧ w'.cell? ⟨ad431.block, ad431.off + 11, none⟩ = some (.bool ((rd_T46 l0_13 0).f4.f3.f0)) ∧ w'.cell? ⟨ad431.block, ad431.off + 12, none⟩ = some (.int .i64 ((rd_T46 l0_13 0).f4.f3.f1)) ∧ w'.cell? ⟨ad431.block, ad431.off + 13, none⟩ = some (.slice A431_13 ((rd_T46 l0_13 0).f5).length c431_13)) (ds := []) #[false, false, false, false, false, false, false, false] (by kernel_rfl) rfl rfl ⟨(blk_cell BK409.out 0).trans rfl, (blk_cell BK409.out 1).trans rfl, (blk_cell BK409.out 2).trans rfl, (blk_cell BK409.out 3).trans rfl, (blk_cell BK409.out 4).trans rfl, (blk_cell BK409.out 5).trans rfl, (blk_cell BK409.out 6).trans rfl, (blk_cell BK409.out 7).trans rfl, (blk_cell BK409.out 8).trans rfl, (blk_cell BK409.out 9).trans rfl, (blk_cell BK409.out 10).trans rfl, (blk_cell BK409.out 11).trans rfl, (blk_cell BK409.out 12).trans rfl, (blk_cell BK409.out 13).trans rfl, (blk_cell BK410.out 0).trans rfl, ((HB.out.cell (World.block_lt_of_cell? w _ hw431_0)).trans hw431_0), ((HB.out.cell (World.block_lt_of_cell? w _ hw431_1)).trans hw431_1), ((HB.out.cell (World.block_lt_of_cell? w _ hw431_2)).trans hw431_2), ((HB.out.cell (World.block_lt_of_cell? w _ hw431_3)).trans hw431_3), ((HB.out.cell (World.block_lt_of_cell? w _ hw431_4)).trans hw431_4), ((HB.out.cell (World.block_lt_of_cell? w _ hw431_5)).trans hw431_5), ((HB.out.cell (World.block_lt_of_cell? w _ hw431_6)).trans hw431_6), ((HB.out.cell (World.block_lt_of_cell? w _ hw431_7)).trans hw431_7), ((HB.out.cell (World.block_lt_of_cell? w _ hw431_8)).trans hw431_8), ((HB.out.cell (World.block_lt_of_cell? w _ hw431_9)).trans hw431_9), ((HB.out.cell (World.block_lt_of_cell? w _ hw431_10)).trans hw431_10), ((HB.out.cell (World.block_lt_of_cell? w _ hw431_11)).trans hw431_11), ((HB.out.cell (World.block_lt_of_cell? w _ hw431_12)).trans hw431_12), ((HB.out.cell (World.block_lt_of_cell? w _ hw431_13)).trans hw431_13)⟩ (fun hHeld => ?_); refine with_tabW pred_Of.tab15 pred_Of.bits15 (fun HT_ HW_ => ?_)
         generalize w60.drew = w63 at BK409 BK410 HB HR431_13 hx431_0 hx431_1 hx431_10 hx431_11 hx431_12 hx431_13 hx431_2 hx431_3 hx431_4 hx431_5 hx431_6 hx431_7 hx431_8 hx431_9 hHeld ⊢
         refine pure_ (i := 0) (N := some 52) (v := ?_) (a' := ?_) #[true, false, false, false, false, false, false, false] rfl rfl (any_of HT_.out (by kernel_rfl)) (fun _ _ _ h => h) (Or.inl ⟨by rfl, ?_⟩) ?_ ?_
         rotate_left
         ·intro w'
          go_simp
          with_reducible rfl
         rotate_left
         ·simp only [Act.put, List.setIfInBounds_toArray, List.set_cons_zero, List.set_cons_succ, i64_w, i32_w]
          rfl
         refine take_ (i := 1) (N := some 53) (v := ?_) (a' := ?_) #[true, true, false, false, false, false, false, false] rfl rfl (take_ofW HT_.out HW_.out (by kernel_rfl)) (fun _ _ _ h => h) (Or.inl ⟨by rfl, ?_⟩) hHeld ?_ ?_
         rotate_left
         ·rintro w' ⟨s0, s1, s2, s3, s4, s5, s6, s7, s8, s9, s10, s11, s12, s13, s14, s15, s16, s17, s18, s19, s20, s21, s22, s23, s24, s25, s26, s27, s28⟩
          go_simp
          with_reducible rfl
         rotate_left
         ·simp only [Act.put, List.setIfInBounds_toArray, List.set_cons_zero, List.set_cons_succ, i64_w, i32_w]
          rfl
         refine pure_ (i := 2) (N := some 54) (v := ?_) (a' := ?_) #[true, true, true, false, false, false, false, false] rfl rfl (any_of HT_.out (by kernel_rfl)) (fun _ _ _ h => h) (Or.inl ⟨by rfl, ?_⟩) ?_ ?_
         rotate_left
         ·intro w'
          go_simp
          with_reducible rfl
         rotate_left
         ·simp only [Act.put, List.setIfInBounds_toArray, List.set_cons_zero, List.set_cons_succ, i64_w, i32_w]
          rfl
         refine take_ (i := 3) (N := some 55) (v := ?_) (a' := ?_) #[true, true, true, true, false, false, false, false] rfl rfl (take_ofW HT_.out HW_.out (by kernel_rfl)) (fun _ _ _ h => h) (Or.inl ⟨by rfl, ?_⟩) hHeld ?_ ?_
         rotate_left
         ·rintro w' ⟨s0, s1, s2, s3, s4, s5, s6, s7, s8, s9, s10, s11, s12, s13, s14, s15, s16, s17, s18, s19, s20, s21, s22, s23, s24, s25, s26, s27, s28⟩
          go_simp
          with_reducible rfl
         rotate_left
         ·simp only [Act.put, List.setIfInBounds_toArray, List.set_cons_zero, List.set_cons_succ, i64_w, i32_w]
          rfl
         refine take_ (i := 4) (N := some 56) (v := ?_) (a' := ?_) #[true, true, true, true, true, false, false, false] rfl rfl (take_ofW HT_.out HW_.out (by kernel_rfl)) (fun _ _ _ h => h) (Or.inl ⟨by rfl, ?_⟩) hHeld ?_ ?_
         rotate_left
         ·rintro w' ⟨s0, s1, s2, s3, s4, s5, s6, s7, s8, s9, s10, s11, s12, s13, s14, s15, s16, s17, s18, s19, s20, s21, s22, s23, s24, s25, s26, s27, s28⟩
          go_simp
          with_reducible rfl
         rotate_left
         ·simp only [Act.put, List.setIfInBounds_toArray, List.set_cons_zero, List.set_cons_succ, i64_w, i32_w]
          rfl
         refine one_ (i := 5) (N := some 57) #[true, true, true, true, true, true, false, false] rfl rfl (one_of HT_.out (by kernel_rfl)) (by decide) (fun K hK => ?_)
         refine goes_ Try.func31 (by kernel_rfl) rfl #[.agg #[.int .i64 ((rd_T46 l0_13 0).f0), .int .i64 ((rd_T46 l0_13 0).f1), .int .i64 ((rd_T46 l0_13 0).f2), .int .i64 ((rd_T46 l0_13 0).f3.f0), .int .i64 ((rd_T46 l0_13 0).f3.f1), .int .i64 ((rd_T46 l0_13 0).f3.f2), .bool ((rd_T46 l0_13 0).f3.f3.f0), .int .i64 ((rd_T46 l0_13 0).f3.f3.f1), .int .i64 ((rd_T46 l0_13 0).f4.f0), .int .i64 ((rd_T46 l0_13 0).f4.f1), .int .i64 ((rd_T46 l0_13 0).f4.f2), .bool ((rd_T46 l0_13 0).f4.f3.f0), .int .i64 ((rd_T46 l0_13 0).f4.f3.f1), .slice A431_13 ((rd_T46 l0_13 0).f5).length c431_13], .slice A1 l1.length c1] (by rfl) rfl rfl (by (try simp only [List.map_toArray, List.map_cons, List.map_nil]); first | done | rfl | (simp only [List.length_drop, List.length_take]; rfl)) ?_
         with_reducible refine (ih k (by omega) ((rd_T46 l0_13 0).f0) ((rd_T46 l0_13 0).f1) ((rd_T46 l0_13 0).f2) ((rd_T46 l0_13 0).f3.f0) ((rd_T46 l0_13 0).f3.f1) ((rd_T46 l0_13 0).f3.f2) ((rd_T46 l0_13 0).f3.f3.f0) ((rd_T46 l0_13 0).f3.f3.f1) ((rd_T46 l0_13 0).f4.f0) ((rd_T46 l0_13 0).f4.f1) ((rd_T46 l0_13 0).f4.f2) ((rd_T46 l0_13 0).f4.f3.f0) ((rd_T46 l0_13 0).f4.f3.f1) _ _ ((rd_T46 l0_13 0).f5) _ _ l1 t432 _ ?side1 ?side2 ?side3 ?side4 A57.out).mono ?_
         (case side1 => exact cd_ (Kd.C_below HR431_13.out HB.out))
         (case side2 => exact HC431_13.out)
         (case side3 => exact cd_ (Kd.C_below HR1.out HB.out))
         (case side4 => exact HC1.out)
         rintro e w64 ⟨rfl, hb⟩
         refine ⟨_, rfl, ?_⟩
         replace BK409 := Aside0.mk (blk_below (bk_ BK409.out) hb)
         replace BK410 := Aside0.mk (blk_below (bk_ BK410.out) hb)
         replace HB := Aside0.mk (below_step (bl2_ HB.out GE409.out GE410.out) hb)
         (try clear hb)
         (try clear hb2)
         (try clear hk)
         (try clear hi)
         refine hK.out _ _ ⟨(blk_cell BK409.out 0).trans rfl, (blk_cell BK409.out 1).trans rfl, (blk_cell BK409.out 2).trans rfl, (blk_cell BK409.out 3).trans rfl, (blk_cell BK409.out 4).trans rfl, (blk_cell BK409.out 5).trans rfl, (blk_cell BK409.out 6).trans rfl, (blk_cell BK409.out 7).trans rfl, (blk_cell BK409.out 8).trans rfl, (blk_cell BK409.out 9).trans rfl, (blk_cell BK409.out 10).trans rfl, (blk_cell BK409.out 11).trans rfl, (blk_cell BK409.out 12).trans rfl, (blk_cell BK409.out 13).trans rfl, (blk_cell BK410.out 0).trans rfl, ((HB.out.cell (World.block_lt_of_cell? w _ hw431_0)).trans hw431_0), ((HB.out.cell (World.block_lt_of_cell? w _ hw431_1)).trans hw431_1), ((HB.out.cell (World.block_lt_of_cell? w _ hw431_2)).trans hw431_2), ((HB.out.cell (World.block_lt_of_cell? w _ hw431_3)).trans hw431_3), ((HB.out.cell (World.block_lt_of_cell? w _ hw431_4)).trans hw431_4), ((HB.out.cell (World.block_lt_of_cell? w _ hw431_5)).trans hw431_5), ((HB.out.cell (World.block_lt_of_cell? w _ hw431_6)).trans hw431_6), ((HB.out.cell (World.block_lt_of_cell? w _ hw431_7)).trans hw431_7), ((HB.out.cell (World.block_lt_of_cell? w _ hw431_8)).trans hw431_8), ((HB.out.cell (World.block_lt_of_cell? w _ hw431_9)).trans hw431_9), ((HB.out.cell (World.block_lt_of_cell? w _ hw431_10)).trans hw431_10), ((HB.out.cell (World.block_lt_of_cell? w _ hw431_11)).trans hw431_11), ((HB.out.cell (World.block_lt_of_cell? w _ hw431_12)).trans hw431_12), ((HB.out.cell (World.block_lt_of_cell? w _ hw431_13)).trans hw431_13)⟩ (fun hHeld => ?_)
         clear hK K
         refine norm_ (a' := ?_) ?_ ?_
         rotate_left
         ·show Act.put _ (some 57) _ = _
          simp only [Act.put, List.setIfInBounds_toArray, List.set_cons_zero, List.set_cons_succ, i64_w, i32_w]
          rfl
         refine one_ (i := 6) (N := some 58) #[true, true, true, true, true, true, true, false] rfl rfl (one_of HT_.out (by kernel_rfl)) (by decide) (fun K hK => ?_)
         refine goes_ Try.func71 (by kernel_rfl) rfl #[.int .i64 t432] (by rfl) rfl rfl (by (try simp only [List.map_toArray, List.map_cons, List.map_nil]); first | done | rfl | (simp only [List.length_drop, List.length_take]; rfl)) ?_
         with_reducible refine (logic_Not.calls t432 t433 _ A58.out).mono ?_
         rintro e w' ⟨rfl, ⟨nd, rfl⟩⟩
         refine ⟨_, rfl, ?_⟩
         refine hK.out _ _ ⟨(blk_cell BK409.out 0).trans rfl, (blk_cell BK409.out 1).trans rfl, (blk_cell BK409.out 2).trans rfl, (blk_cell BK409.out 3).trans rfl, (blk_cell BK409.out 4).trans rfl, (blk_cell BK409.out 5).trans rfl, (blk_cell BK409.out 6).trans rfl, (blk_cell BK409.out 7).trans rfl, (blk_cell BK409.out 8).trans rfl, (blk_cell BK409.out 9).trans rfl, (blk_cell BK409.out 10).trans rfl, (blk_cell BK409.out 11).trans rfl, (blk_cell BK409.out 12).trans rfl, (blk_cell BK409.out 13).trans rfl, (blk_cell BK410.out 0).trans rfl, ((HB.out.cell (World.block_lt_of_cell? w _ hw431_0)).trans hw431_0), ((HB.out.cell (World.block_lt_of_cell? w _ hw431_1)).trans hw431_1), ((HB.out.cell (World.block_lt_of_cell? w _ hw431_2)).trans hw431_2), ((HB.out.cell (World.block_lt_of_cell? w _ hw431_3)).trans hw431_3), ((HB.out.cell (World.block_lt_of_cell? w _ hw431_4)).trans hw431_4), ((HB.out.cell (World.block_lt_of_cell? w _ hw431_5)).trans hw431_5), ((HB.out.cell (World.block_lt_of_cell? w _ hw431_6)).trans hw431_6), ((HB.out.cell (World.block_lt_of_cell? w _ hw431_7)).trans hw431_7), ((HB.out.cell (World.block_lt_of_cell? w _ hw431_8)).trans hw431_8), ((HB.out.cell (World.block_lt_of_cell? w _ hw431_9)).trans hw431_9), ((HB.out.cell (World.block_lt_of_cell? w _ hw431_10)).trans hw431_10), ((HB.out.cell (World.block_lt_of_cell? w _ hw431_11)).trans hw431_11), ((HB.out.cell (World.block_lt_of_cell? w _ hw431_12)).trans hw431_12), ((HB.out.cell (World.block_lt_of_cell? w _ hw431_13)).trans hw431_13)⟩ (fun hHeld => ?_)
         clear hK K
         refine norm_ (a' := ?_) ?_ ?_
         rotate_left
         ·show Act.put _ (some 58) _ = _
          simp only [Act.put, List.setIfInBounds_toArray, List.set_cons_zero, List.set_cons_succ, i64_w, i32_w]
          rfl
         refine pure_ (i := 7) (N := some 4) (v := ?_) (a' := ?_) #[true, true, true, true, true, true, true, true] rfl rfl (any_of HT_.out (by kernel_rfl)) (fun _ _ _ h => h) (Or.inl ⟨by rfl, ?_⟩) ?_ ?_
         rotate_left
         ·intro w'
          go_simp
          with_reducible rfl
         rotate_left
         ·simp only [Act.put, List.setIfInBounds_toArray, List.set_cons_zero, List.set_cons_succ, i64_w, i32_w]
          rfl
         refine done_ (done_of HT_.out (by kernel_rfl)) ?_
         try go_wp2
         go_ret
         exact ⟨by first | rfl | (simp [errW_none, errW_some] <;> rfl) | (simp [*, errW_none, errW_some] <;> rfl), by repeat (first | (with_reducible first | exact HB.out | apply below_alloc | apply pw_below_drewN | apply below_drew1 | refine below_set ?_ GE409.out | refine below_set ?_ GE410.out) | exact HB.out)⟩
        ·rw [if_neg c56] at H
         exact absurd H (by simp)
       ·rw [if_neg c55] at H
        have c55b0 : decide (0 < (l0_13.length : Int)) = false := decide_eq_false c55
        have c55b1 : decide (0 < l0_13.length) = false := decide_eq_false (by omega)
        clear c55
        obtain rfl := Option.some.inj H
        go_enter Try.func31, Try.ntmps31
        go_wp2_with (first | ((with_reducible refine gate_dst (N := 2) rfl ?_); refine box_event ?hg (N := 2) ?hd (cs := #[.int .i64 a0_0, .int .i64 a0_1, .int .i64 a0_2, .int .i64 a0_3, .int .i64 a0_4, .int .i64 a0_5, .bool a0_6, .int .i64 a0_7, .int .i64 a0_8, .int .i64 a0_9, .int .i64 a0_10, .bool a0_11, .int .i64 a0_12, .slice A0_13 l0_13.length c0_13]) (t := 46) ?hr ?_; (case hd => rfl); (case hg => rfl); (case hr => first | (go_simp; done) | (go_simp; rfl)); intro gb409 hg w65 hbox hb; have BK409 := Aside0.mk (hbox); have GW409 := Aside0.mk ((by rw [hg]; exact (below_size (bl_ HB.out)) : w.heap.size ≤ gb409)); replace HB := Aside0.mk (below_step (bl_ HB.out) hb); have GE409 := GW409; clear hb hbox hg) | ((with_reducible refine gate_dst (N := 3) rfl ?_); refine box_event ?hg (N := 3) ?hd (cs := #[.slice A1 l1.length c1]) (t := 51) ?hr ?_; (case hd => rfl); (case hg => rfl); (case hr => first | (go_simp; done) | (go_simp; rfl)); intro gb410 hg w66 hbox hb; have BK410 := Aside0.mk (hbox); have GW410 := Aside0.mk ((by rw [hg]; exact (below_size (bl1_ HB.out GE409.out)) : w.heap.size ≤ gb410)); replace HB := Aside0.mk (below_step (bl1_ HB.out GE409.out) hb); have GE410 := GW410; have NB409_410 := Aside0.mk ((by rw [hg]; exact Nat.ne_of_lt (blk_lt (bk_ BK409.out)) : gb409 ≠ gb410)); have NB410_409 := Aside0.mk ((by rw [hg]; exact Nat.ne_of_gt (blk_lt (bk_ BK409.out)) : gb410 ≠ gb409)); replace BK409 := Aside0.mk (blk_below (bk_ BK409.out) hb); clear hb hbox hg; have hnb67 := NB409_410.out; have hnc67 := NB410_409.out; have hcz68 := blk_cell BK409.out; have hfz68 := blk_frozen BK409.out; have hfz68_13 := blk_frozen BK409.out 13))
        go_ret
        exact ⟨by first | rfl | (simp [errW_none, errW_some] <;> rfl) | (simp [*, errW_none, errW_some] <;> rfl), by repeat (first | (with_reducible first | exact HB.out | apply below_alloc | apply pw_below_drewN | apply below_drew1 | refine below_set ?_ GE409.out | refine below_set ?_ GE410.out) | exact HB.out)⟩
      ·rw [if_neg c54] at H
       have c54b0 : (a0_0 == 6) = false := beq_eq_false_iff_ne.mpr c54
       have c54b1 : (a0_0 != 6) = true := bne_iff_ne.mpr c54
       obtain rfl := Option.some.inj H
       go_enter Try.func31, Try.ntmps31
       go_wp2_with (first | ((with_reducible refine gate_dst (N := 2) rfl ?_); refine box_event ?hg (N := 2) ?hd (cs := #[.int .i64 a0_0, .int .i64 a0_1, .int .i64 a0_2, .int .i64 a0_3, .int .i64 a0_4, .int .i64 a0_5, .bool a0_6, .int .i64 a0_7, .int .i64 a0_8, .int .i64 a0_9, .int .i64 a0_10, .bool a0_11, .int .i64 a0_12, .slice A0_13 l0_13.length c0_13]) (t := 46) ?hr ?_; (case hd => rfl); (case hg => rfl); (case hr => first | (go_simp; done) | (go_simp; rfl)); intro gb409 hg w69 hbox hb; have BK409 := Aside0.mk (hbox); have GW409 := Aside0.mk ((by rw [hg]; exact (below_size (bl_ HB.out)) : w.heap.size ≤ gb409)); replace HB := Aside0.mk (below_step (bl_ HB.out) hb); have GE409 := GW409; clear hb hbox hg) | ((with_reducible refine gate_dst (N := 3) rfl ?_); refine box_event ?hg (N := 3) ?hd (cs := #[.slice A1 l1.length c1]) (t := 51) ?hr ?_; (case hd => rfl); (case hg => rfl); (case hr => first | (go_simp; done) | (go_simp; rfl)); intro gb410 hg w70 hbox hb; have BK410 := Aside0.mk (hbox); have GW410 := Aside0.mk ((by rw [hg]; exact (below_size (bl1_ HB.out GE409.out)) : w.heap.size ≤ gb410)); replace HB := Aside0.mk (below_step (bl1_ HB.out GE409.out) hb); have GE410 := GW410; have NB409_410 := Aside0.mk ((by rw [hg]; exact Nat.ne_of_lt (blk_lt (bk_ BK409.out)) : gb409 ≠ gb410)); have NB410_409 := Aside0.mk ((by rw [hg]; exact Nat.ne_of_gt (blk_lt (bk_ BK409.out)) : gb410 ≠ gb409)); replace BK409 := Aside0.mk (blk_below (bk_ BK409.out) hb); clear hb hbox hg; have hnb71 := NB409_410.out; have hnc71 := NB410_409.out; have hcz72 := blk_cell BK409.out; have hfz72 := blk_frozen BK409.out; have hfz72_13 := blk_frozen BK409.out 13))
       go_ret
       exact ⟨by first | rfl | (simp [errW_none, errW_some] <;> rfl) | (simp [*, errW_none, errW_some] <;> rfl), by repeat (first | (with_reducible first | exact HB.out | apply below_alloc | apply pw_below_drewN | apply below_drew1 | refine below_set ?_ GE409.out | refine below_set ?_ GE410.out) | exact HB.out)⟩
theorem pred_Of_1.calls_g : ∀ k, pred_Of_1.Says k ∧ pred_Of.Says k := by
 intro k
 induction k using Nat.strongRecOn with
 | _ k ih =>
 exact ⟨pred_Of_1.calls_of k (fun j_ hj_ => (ih j_ hj_).1) (fun j_ hj_ => (ih j_ hj_).2), pred_Of.calls_of k (fun j_ hj_ => (ih j_ hj_).2) (fun j_ hj_ => (ih j_ hj_).1)⟩
theorem pred_Of_1.calls (k : Nat) : ∀ (g0 : Nat) (a0_0 : Int) (a0_1 : Int) (a0_2 : Int) (a0_3 : Int) (a0_4 : Int) (a0_5 : Int) (a0_6 : Bool) (a0_7 : Int) (a0_8 : Int) (a0_9 : Int) (a0_10 : Int) (a0_11 : Bool) (a0_12 : Int) (A0_13 : Option Addr) (c0_13 : Nat) (l0_13 : List (S46)) (g1 : Nat) (A1_0 : Option Addr) (c1_0 : Nat) (l1_0 : List (List (S42))) (r : List Int) (w : World) (hb0 : w.heap[g0]? = some (.cells #[.int .i64 a0_0, .int .i64 a0_1, .int .i64 a0_2, .int .i64 a0_3, .int .i64 a0_4, .int .i64 a0_5, .bool a0_6, .int .i64 a0_7, .int .i64 a0_8, .int .i64 a0_9, .int .i64 a0_10, .bool a0_11, .int .i64 a0_12, .slice A0_13 l0_13.length c0_13] 46 (0, 0))) (hr0_13 : Kd.C k46 w A0_13 l0_13.length l0_13) (hc0_13 : l0_13.length ≤ c0_13) (hb1 : w.heap[g1]? = some (.cells #[.slice A1_0 l1_0.length c1_0] 51 (0, 0))) (hr1_0 : Kd.C (Kd.slice 42 k42) w A1_0 l1_0.length l1_0) (hc1_0 : l1_0.length ≤ c1_0) (h : pred_Of_1.f k a0_0 a0_1 a0_2 a0_3 a0_4 a0_5 a0_6 a0_7 a0_8 a0_9 a0_10 a0_11 a0_12 l0_13 l1_0 = some r),
  Calls Try.prog 67 #[.pointer (some ⟨g0, 0, none⟩), .pointer (some ⟨g1, 0, none⟩)] w fun e w' => ∃ v0_ : Value, e = .returned (v0_) ∧ Kd.R (Kd.int .i64) 3 w' w.heap.size (fun _ => True) v0_ r ∧ Below w.heap.size w w' := (pred_Of_1.calls_g k).1
theorem pred_Of.calls (k : Nat) : ∀ (a0_0 : Int) (a0_1 : Int) (a0_2 : Int) (a0_3 : Int) (a0_4 : Int) (a0_5 : Int) (a0_6 : Bool) (a0_7 : Int) (a0_8 : Int) (a0_9 : Int) (a0_10 : Int) (a0_11 : Bool) (a0_12 : Int) (A0_13 : Option Addr) (c0_13 : Nat) (l0_13 : List (S46)) (A1 : Option Addr) (c1 : Nat) (l1 : List (List (S42))) (r : Int) (w : World) (hr0_13 : Kd.C k46 w A0_13 l0_13.length l0_13) (hc0_13 : l0_13.length ≤ c0_13) (hr1 : Kd.C (Kd.slice 42 k42) w A1 l1.length l1) (hc1 : l1.length ≤ c1) (h : pred_Of.f k a0_0 a0_1 a0_2 a0_3 a0_4 a0_5 a0_6 a0_7 a0_8 a0_9 a0_10 a0_11 a0_12 l0_13 l1 = some r),
  Calls Try.prog 31 #[.agg #[.int .i64 a0_0, .int .i64 a0_1, .int .i64 a0_2, .int .i64 a0_3, .int .i64 a0_4, .int .i64 a0_5, .bool a0_6, .int .i64 a0_7, .int .i64 a0_8, .int .i64 a0_9, .int .i64 a0_10, .bool a0_11, .int .i64 a0_12, .slice A0_13 l0_13.length c0_13], .slice A1 l1.length c1] w fun e w' => e = .returned (.int .i64 r) ∧ Below w.heap.size w w' := (pred_Of_1.calls_g k).2

/-! ### pred_All: function 32 -/
def pred_All.f (k : Nat) (l0 : List (S46)) (l1 : List (List (S42))) : Option (Int) := (pred_Of.f k 4 0 0 0 0 0 false 0 0 0 0 false 0 l0 l1).bind fun t434 => (some t434)
theorem pred_All.mono : ∀ a0 a1 k, LeO (pred_All.f k a0 a1) (pred_All.f (k + 1) a0 a1) := by
 intro a0 a1 k
 unfold pred_All.f
 repeat' first
   | (with_reducible exact pred_Of.mono _ _ _ _ _ _ _ _ _ _ _ _ _ _ _ _)
   | (with_reducible exact LeO.refl _)
   | (with_reducible exact LeO.none _)
   | (with_reducible refine LeO.ite ?_ ?_)
   | (with_reducible refine LeO.bind ?_ (fun _ => ?_))
   | exact pred_Of.mono _ _ _ _ _ _ _ _ _ _ _ _ _ _ _ _
   | exact LeO.none _
   | refine LeO.ite ?_ ?_
   | refine LeO.bind ?_ (fun _ => ?_)
set_option maxHeartbeats 8000000 in
set_option maxRecDepth 100000 in
theorem pred_All.calls (k : Nat) (A0 : Option Addr) (c0 : Nat) (l0 : List (S46)) (A1 : Option Addr) (c1 : Nat) (l1 : List (List (S42))) (r : Int) (w : World) (hr0 : Kd.C k46 w A0 l0.length l0) (hc0 : l0.length ≤ c0) (hr1 : Kd.C (Kd.slice 42 k42) w A1 l1.length l1) (hc1 : l1.length ≤ c1) (h : pred_All.f k l0 l1 = some r) :
  Calls Try.prog 32 #[.slice A0 l0.length c0, .slice A1 l1.length c1] w fun e w' => e = .returned (.int .i64 r) ∧ Below w.heap.size w w' := by
 have hu46 := Try.underlying46
 have HR0 := Aside0.mk hr0
 have HC0 := Aside0.mk hc0
 clear hr0 hc0
 have HR1 := Aside0.mk hr1
 have HC1 := Aside0.mk hc1
 clear hr1 hc1
 have HB := Aside0.mk (Below.refl w.heap.size w)
 have H : ((pred_Of.f k 4 0 0 0 0 0 false 0 0 0 0 false 0 l0 l1).bind fun t434 => (some t434)) = some r := h
 clear h
 replace H := Option.bind_eq_some_iff.mp H
 obtain ⟨t434, A30, H⟩ := H
 replace H : (some t434) = some r := H
 have A3 := Aside0.mk A30
 clear A30
 obtain rfl := Option.some.inj H
 go_enter Try.func32, Try.ntmps32
 go_wp2_with (first | ((with_reducible refine gate_callee (f := 31) rfl ?_); refine goesL_ (some 8) rfl rfl Try.func31 (by kernel_rfl) rfl #[.agg #[.int .i64 4, .int .i64 0, .int .i64 0, .int .i64 0, .int .i64 0, .int .i64 0, .bool false, .int .i64 0, .int .i64 0, .int .i64 0, .int .i64 0, .bool false, .int .i64 0, .slice A0 l0.length c0], .slice A1 l1.length c1] rfl (by (try simp only [List.map_toArray, List.map_cons, List.map_nil]); first | done | rfl | (simp only [List.length_drop, List.length_take]; rfl)) ?_; (with_reducible refine (pred_Of.calls k 4 0 0 0 0 0 false 0 0 0 0 false 0 _ _ l0 _ _ l1 t434 _ ?side1 ?side2 ?side3 ?side4 A3.out).mono ?_); (case side1 => exact cd_ HR0.out); (case side2 => exact HC0.out); (case side3 => exact cd_ HR1.out); (case side4 => exact HC1.out); rintro e w4 ⟨rfl, hb⟩; refine ⟨_, rfl, ?_⟩; replace HB := Aside0.mk (below_step (bl_ HB.out) hb); (try clear hb)))
 go_ret
 exact ⟨by first | rfl | (simp [errW_none, errW_some] <;> rfl) | (simp [*, errW_none, errW_some] <;> rfl), by repeat (first | (with_reducible first | exact HB.out | apply below_alloc | apply pw_below_drewN | apply below_drew1) | exact HB.out)⟩

end Go.Proofs.Ytigkkfhpnfjmhaa.PRejM
