/- Laid by a program of this session over the printer of the kit: contracts of functions of the given program, and rows of laws. Lean checks it. -/
import Derived.Test.YtigkkfhpnfjmhaaPRejMx0
import Derived.Test.YtigkkfhpnfjmhaaPRejMx2
import Derived.Test.YtigkkfhpnfjmhaaPRejMx4
import Derived.Test.YtigkkfhpnfjmhaaPRejMx5
import Derived.Test.YtigkkfhpnfjmhaaPRejMx6
namespace Go.Proofs.Ytigkkfhpnfjmhaa.PRejM
open Go.RowKit Go.Proofs.YtigkkfhpnfjmhaaW.PrintWords Go.Proofs.YtigkkfhpnfjmhaaW.PrintLast Go.Proofs.YtigkkfhpnfjmhaaW.PrintMore
attribute [local go_sem] max2_int min2_int max_two min_two max_three min_three max_four min_four   -- for this text's walks alone
set_option linter.unusedVariables false
set_option linter.unusedSimpArgs false

/-! ### watersmeetlaw07_RejectMeans: function 8 -/
mutual
def watersmeetlaw07_RejectMeans.j0 : Nat → List (S46) → Int → List (List (S42)) → Bool → Option (Bool)
 | 0, _, _, _, _ => none
 | k + 1, x0, x1, x2, x20 => if x20 = true then ((watersmeetlaw07_awake.f k).bind fun t436 => (some t436)) else (watersmeetlaw07_RejectMeans.l0 k x0 x1 x2 (([] : List (List (S42)))) 0)
def watersmeetlaw07_RejectMeans.l0 : Nat → List (S46) → Int → List (List (S42)) → List (List (S42)) → Int → Option (Bool)
 | 0, _, _, _, _, _ => none
 | k + 1, x0, x1, x2, x7, x8 => if x8 < (x2.length : Int) then (if 0 ≤ x8 then (if ((rd_L6 x2 x8).length : Int) > 20 then ((watersmeetlaw07_awake.f k).bind fun t441 => (some t441)) else ((some (([] : List (S42)) : List (S42))).bind fun y442 => (if y442.length + (rd_L6 x2 x8).length < 8796093022208 then ((some (y442 ++ (rd_L6 x2 x8) : List (S42))).bind fun y446 => ((watersmeetref01_Has.f k x1 x8).bind fun t449 => (if t449 = true then (watersmeetlaw07_RejectMeans.l1 k x0 x1 x2 x7 x8 y446 0) else (if x7.length < 5864062014805 then (watersmeetlaw07_RejectMeans.l0 k x0 x1 x2 (x7 ++ [y446]) (wrap64 (x8 + 1))) else (none))))) else (none)))) else (none)) else (watersmeetlaw07_RejectMeans.l2 k x0 x1 x7 0)
def watersmeetlaw07_RejectMeans.l1 : Nat → List (S46) → Int → List (List (S42)) → List (List (S42)) → Int → List (S42) → Int → Option (Bool)
 | 0, _, _, _, _, _, _, _ => none
 | k + 1, x0, x1, x2, x7, x8, x9, x10 => if x10 < (x9.length : Int) then (if 0 ≤ x10 then (watersmeetlaw07_RejectMeans.l1 k x0 x1 x2 x7 x8 (x9.set (x10 : Int).toNat (⟨true, 0⟩ : S42)) (wrap64 (x10 + 1))) else (none)) else (if x7.length < 5864062014805 then (watersmeetlaw07_RejectMeans.l0 k x0 x1 x2 (x7 ++ [x9]) (wrap64 (x8 + 1))) else (none))
def watersmeetlaw07_RejectMeans.l2 : Nat → List (S46) → Int → List (List (S42)) → Int → Option (Bool)
 | 0, _, _, _, _ => none
 | k + 1, x0, x1, x7, x11 => if x11 < (x0.length : Int) then (if 0 ≤ x11 then ((pred_Of.f k ((rd_T46 x0 x11).f0) ((rd_T46 x0 x11).f1) ((rd_T46 x0 x11).f2) ((rd_T46 x0 x11).f3.f0) ((rd_T46 x0 x11).f3.f1) ((rd_T46 x0 x11).f3.f2) ((rd_T46 x0 x11).f3.f3.f0) ((rd_T46 x0 x11).f3.f3.f1) ((rd_T46 x0 x11).f4.f0) ((rd_T46 x0 x11).f4.f1) ((rd_T46 x0 x11).f4.f2) ((rd_T46 x0 x11).f4.f3.f0) ((rd_T46 x0 x11).f4.f3.f1) ((rd_T46 x0 x11).f5) x7).bind fun t462 => (if t462 < 0 then (none) else (if t462 > 2 then (none) else ((reject_May.f k ((rd_T46 x0 x11).f0) ((rd_T46 x0 x11).f1) ((rd_T46 x0 x11).f2) ((rd_T46 x0 x11).f3.f0) ((rd_T46 x0 x11).f3.f1) ((rd_T46 x0 x11).f3.f2) ((rd_T46 x0 x11).f3.f3.f0) ((rd_T46 x0 x11).f3.f3.f1) ((rd_T46 x0 x11).f4.f0) ((rd_T46 x0 x11).f4.f1) ((rd_T46 x0 x11).f4.f2) ((rd_T46 x0 x11).f4.f3.f0) ((rd_T46 x0 x11).f4.f3.f1) ((rd_T46 x0 x11).f5) x1).bind fun bt464 => (if t462 = 0 then (if bt464.1 = true then (watersmeetlaw07_RejectMeans.l2 k x0 x1 x7 (wrap64 (x11 + 1))) else (none)) else (if t462 = 1 then (if bt464.2.1 = true then (watersmeetlaw07_RejectMeans.l2 k x0 x1 x7 (wrap64 (x11 + 1))) else (none)) else (if t462 = 2 then (if bt464.2.2 = true then (watersmeetlaw07_RejectMeans.l2 k x0 x1 x7 (wrap64 (x11 + 1))) else (none)) else (none)))))))) else (none)) else ((reject_Rejects.f k x0 x1).bind fun t457 => (if t457 = true then ((pred_All.f k x0 x7).bind fun t458 => (if t458 = 2 then (none) else ((watersmeetlaw07_awake.f k).bind fun t459 => (some t459)))) else ((watersmeetlaw07_awake.f k).bind fun t460 => (some t460))))
end
def watersmeetlaw07_RejectMeans.f (k : Nat) (l0 : List (S46)) (a1 : Int) (l2 : List (List (S42))) : Option (Bool) := (watersmeetlaw07_few.f k l0).bind fun t435 => (if t435 = true then (watersmeetlaw07_RejectMeans.j0 k l0 a1 l2 (decide ((l2.length : Int) > 64))) else (watersmeetlaw07_RejectMeans.j0 k l0 a1 l2 true))
theorem watersmeetlaw07_RejectMeans.mono_l : ∀ k, (∀ y0 y1 y2 y3, LeO (watersmeetlaw07_RejectMeans.j0 k y0 y1 y2 y3) (watersmeetlaw07_RejectMeans.j0 (k + 1) y0 y1 y2 y3)) ∧ (∀ y0 y1 y2 y3 y4, LeO (watersmeetlaw07_RejectMeans.l0 k y0 y1 y2 y3 y4) (watersmeetlaw07_RejectMeans.l0 (k + 1) y0 y1 y2 y3 y4)) ∧ (∀ y0 y1 y2 y3 y4 y5 y6, LeO (watersmeetlaw07_RejectMeans.l1 k y0 y1 y2 y3 y4 y5 y6) (watersmeetlaw07_RejectMeans.l1 (k + 1) y0 y1 y2 y3 y4 y5 y6)) ∧ (∀ y0 y1 y2 y3, LeO (watersmeetlaw07_RejectMeans.l2 k y0 y1 y2 y3) (watersmeetlaw07_RejectMeans.l2 (k + 1) y0 y1 y2 y3))
 | 0 => ⟨fun _ _ _ _ r h => by simp [watersmeetlaw07_RejectMeans.j0] at h, fun _ _ _ _ _ r h => by simp [watersmeetlaw07_RejectMeans.l0] at h, fun _ _ _ _ _ _ _ r h => by simp [watersmeetlaw07_RejectMeans.l1] at h, fun _ _ _ _ r h => by simp [watersmeetlaw07_RejectMeans.l2] at h⟩
 | k + 1 => by
  obtain ⟨ih0, ih1, ih2, ih3⟩ := watersmeetlaw07_RejectMeans.mono_l k
  refine ⟨?_, ?_, ?_, ?_⟩
  ·intro y0 y1 y2 y3
   unfold watersmeetlaw07_RejectMeans.j0
   repeat' first
   | (with_reducible exact ih0 _ _ _ _)
   | (with_reducible exact ih1 _ _ _ _ _)
   | (with_reducible exact ih2 _ _ _ _ _ _ _)
   | (with_reducible exact ih3 _ _ _ _)
   | (with_reducible exact pred_All.mono _ _ _)
   | (with_reducible exact pred_Of.mono _ _ _ _ _ _ _ _ _ _ _ _ _ _ _ _)
   | (with_reducible exact reject_May.mono _ _ _ _ _ _ _ _ _ _ _ _ _ _ _ _)
   | (with_reducible exact reject_Rejects.mono _ _ _)
   | (with_reducible exact watersmeetlaw07_awake.mono _)
   | (with_reducible exact watersmeetlaw07_few.mono _ _)
   | (with_reducible exact watersmeetref01_Has.mono _ _ _)
   | (with_reducible exact LeO.refl _)
   | (with_reducible exact LeO.none _)
   | (with_reducible refine LeO.ite ?_ ?_)
   | (with_reducible refine LeO.bind ?_ (fun _ => ?_))
   | exact ih0 _ _ _ _
   | exact ih1 _ _ _ _ _
   | exact ih2 _ _ _ _ _ _ _
   | exact ih3 _ _ _ _
   | exact pred_All.mono _ _ _
   | exact pred_Of.mono _ _ _ _ _ _ _ _ _ _ _ _ _ _ _ _
   | exact reject_May.mono _ _ _ _ _ _ _ _ _ _ _ _ _ _ _ _
   | exact reject_Rejects.mono _ _ _
   | exact watersmeetlaw07_awake.mono _
   | exact watersmeetlaw07_few.mono _ _
   | exact watersmeetref01_Has.mono _ _ _
   | exact LeO.none _
   | refine LeO.ite ?_ ?_
   | refine LeO.bind ?_ (fun _ => ?_)
  ·intro y0 y1 y2 y3 y4
   unfold watersmeetlaw07_RejectMeans.l0
   repeat' first
   | (with_reducible exact ih0 _ _ _ _)
   | (with_reducible exact ih1 _ _ _ _ _)
   | (with_reducible exact ih2 _ _ _ _ _ _ _)
   | (with_reducible exact ih3 _ _ _ _)
   | (with_reducible exact pred_All.mono _ _ _)
   | (with_reducible exact pred_Of.mono _ _ _ _ _ _ _ _ _ _ _ _ _ _ _ _)
   | (with_reducible exact reject_May.mono _ _ _ _ _ _ _ _ _ _ _ _ _ _ _ _)
   | (with_reducible exact reject_Rejects.mono _ _ _)
   | (with_reducible exact watersmeetlaw07_awake.mono _)
   | (with_reducible exact watersmeetlaw07_few.mono _ _)
   | (with_reducible exact watersmeetref01_Has.mono _ _ _)
   | (with_reducible exact LeO.refl _)
   | (with_reducible exact LeO.none _)
   | (with_reducible refine LeO.ite ?_ ?_)
   | (with_reducible refine LeO.bind ?_ (fun _ => ?_))
   | exact ih0 _ _ _ _
   | exact ih1 _ _ _ _ _
   | exact ih2 _ _ _ _ _ _ _
   | exact ih3 _ _ _ _
   | exact pred_All.mono _ _ _
   | exact pred_Of.mono _ _ _ _ _ _ _ _ _ _ _ _ _ _ _ _
   | exact reject_May.mono _ _ _ _ _ _ _ _ _ _ _ _ _ _ _ _
   | exact reject_Rejects.mono _ _ _
   | exact watersmeetlaw07_awake.mono _
   | exact watersmeetlaw07_few.mono _ _
   | exact watersmeetref01_Has.mono _ _ _
   | exact LeO.none _
   | refine LeO.ite ?_ ?_
   | refine LeO.bind ?_ (fun _ => ?_)
  ·intro y0 y1 y2 y3 y4 y5 y6
   unfold watersmeetlaw07_RejectMeans.l1
   repeat' first
   | (with_reducible exact ih0 _ _ _ _)
   | (with_reducible exact ih1 _ _ _ _ _)
   | (with_reducible exact ih2 _ _ _ _ _ _ _)
   | (with_reducible exact ih3 _ _ _ _)
   | (with_reducible exact pred_All.mono _ _ _)
   | (with_reducible exact pred_Of.mono _ _ _ _ _ _ _ _ _ _ _ _ _ _ _ _)
   | (with_reducible exact reject_May.mono _ _ _ _ _ _ _ _ _ _ _ _ _ _ _ _)
   | (with_reducible exact reject_Rejects.mono _ _ _)
   | (with_reducible exact watersmeetlaw07_awake.mono _)
   | (with_reducible exact watersmeetlaw07_few.mono _ _)
   | (with_reducible exact watersmeetref01_Has.mono _ _ _)
   | (with_reducible exact LeO.refl _)
   | (with_reducible exact LeO.none _)
   | (with_reducible refine LeO.ite ?_ ?_)
   | (with_reducible refine LeO.bind ?_ (fun _ => ?_))
   | exact ih0 _ _ _ _
   | exact ih1 _ _ _ _ _
   | exact ih2 _ _ _ _ _ _ _
   | exact ih3 _ _ _ _
   | exact pred_All.mono _ _ _
   | exact pred_Of.mono _ _ _ _ _ _ _ _ _ _ _ _ _ _ _ _
   | exact reject_May.mono _ _ _ _ _ _ _ _ _ _ _ _ _ _ _ _
   | exact reject_Rejects.mono _ _ _
   | exact watersmeetlaw07_awake.mono _
   | exact watersmeetlaw07_few.mono _ _
   | exact watersmeetref01_Has.mono _ _ _
   | exact LeO.none _
   | refine LeO.ite ?_ ?_
   | refine LeO.bind ?_ (fun _ => ?_)
  ·intro y0 y1 y2 y3
   unfold watersmeetlaw07_RejectMeans.l2
   repeat' first
   | (with_reducible exact ih0 _ _ _ _)
   | (with_reducible exact ih1 _ _ _ _ _)
   | (with_reducible exact ih2 _ _ _ _ _ _ _)
   | (with_reducible exact ih3 _ _ _ _)
   | (with_reducible exact pred_All.mono _ _ _)
   | (with_reducible exact pred_Of.mono _ _ _ _ _ _ _ _ _ _ _ _ _ _ _ _)
   | (with_reducible exact reject_May.mono _ _ _ _ _ _ _ _ _ _ _ _ _ _ _ _)
   | (with_reducible exact reject_Rejects.mono _ _ _)
   | (with_reducible exact watersmeetlaw07_awake.mono _)
   | (with_reducible exact watersmeetlaw07_few.mono _ _)
   | (with_reducible exact watersmeetref01_Has.mono _ _ _)
   | (with_reducible exact LeO.refl _)
   | (with_reducible exact LeO.none _)
   | (with_reducible refine LeO.ite ?_ ?_)
   | (with_reducible refine LeO.bind ?_ (fun _ => ?_))
   | exact ih0 _ _ _ _
   | exact ih1 _ _ _ _ _
   | exact ih2 _ _ _ _ _ _ _
   | exact ih3 _ _ _ _
   | exact pred_All.mono _ _ _
   | exact pred_Of.mono _ _ _ _ _ _ _ _ _ _ _ _ _ _ _ _
   | exact reject_May.mono _ _ _ _ _ _ _ _ _ _ _ _ _ _ _ _
   | exact reject_Rejects.mono _ _ _
   | exact watersmeetlaw07_awake.mono _
   | exact watersmeetlaw07_few.mono _ _
   | exact watersmeetref01_Has.mono _ _ _
   | exact LeO.none _
   | refine LeO.ite ?_ ?_
   | refine LeO.bind ?_ (fun _ => ?_)
theorem watersmeetlaw07_RejectMeans.mono : ∀ a0 a1 a2 k, LeO (watersmeetlaw07_RejectMeans.f k a0 a1 a2) (watersmeetlaw07_RejectMeans.f (k + 1) a0 a1 a2) := by
 intro a0 a1 a2 k
 obtain ⟨ih0, ih1, ih2, ih3⟩ := watersmeetlaw07_RejectMeans.mono_l k
 unfold watersmeetlaw07_RejectMeans.f
 repeat' first
   | (with_reducible exact ih0 _ _ _ _)
   | (with_reducible exact ih1 _ _ _ _ _)
   | (with_reducible exact ih2 _ _ _ _ _ _ _)
   | (with_reducible exact ih3 _ _ _ _)
   | (with_reducible exact pred_All.mono _ _ _)
   | (with_reducible exact pred_Of.mono _ _ _ _ _ _ _ _ _ _ _ _ _ _ _ _)
   | (with_reducible exact reject_May.mono _ _ _ _ _ _ _ _ _ _ _ _ _ _ _ _)
   | (with_reducible exact reject_Rejects.mono _ _ _)
   | (with_reducible exact watersmeetlaw07_awake.mono _)
   | (with_reducible exact watersmeetlaw07_few.mono _ _)
   | (with_reducible exact watersmeetref01_Has.mono _ _ _)
   | (with_reducible exact LeO.refl _)
   | (with_reducible exact LeO.none _)
   | (with_reducible refine LeO.ite ?_ ?_)
   | (with_reducible refine LeO.bind ?_ (fun _ => ?_))
   | exact ih0 _ _ _ _
   | exact ih1 _ _ _ _ _
   | exact ih2 _ _ _ _ _ _ _
   | exact ih3 _ _ _ _
   | exact pred_All.mono _ _ _
   | exact pred_Of.mono _ _ _ _ _ _ _ _ _ _ _ _ _ _ _ _
   | exact reject_May.mono _ _ _ _ _ _ _ _ _ _ _ _ _ _ _ _
   | exact reject_Rejects.mono _ _ _
   | exact watersmeetlaw07_awake.mono _
   | exact watersmeetlaw07_few.mono _ _
   | exact watersmeetref01_Has.mono _ _ _
   | exact LeO.none _
   | refine LeO.ite ?_ ?_
   | refine LeO.bind ?_ (fun _ => ?_)
set_option maxHeartbeats 8000000 in
set_option maxRecDepth 100000 in
theorem watersmeetlaw07_RejectMeans.calls (k : Nat) (A0 : Option Addr) (c0 : Nat) (l0 : List (S46)) (a1 : Int) (A2 : Option Addr) (c2 : Nat) (l2 : List (List (S42))) (r : Bool) (w : World) (hr0 : Kd.C k46 w A0 l0.length l0) (hc0 : l0.length ≤ c0) (hr2 : Kd.C (Kd.slice 42 k42) w A2 l2.length l2) (hc2 : l2.length ≤ c2) (h : watersmeetlaw07_RejectMeans.f k l0 a1 l2 = some r) :
  Calls Try.prog 8 #[.slice A0 l0.length c0, .int .u64 a1, .slice A2 l2.length c2] w fun e w' => e = .returned (.bool r) ∧ Below w.heap.size w w' := by
 have hu42 := Try.underlying42
 have hu46 := Try.underlying46
 have hix39_0 : ∀ (y0 : Bool) (y1 : Bool) (y2 : Bool) (w : World), (Instr.index 39 (.agg #[.bool y0, .bool y1, .bool y2]) (.int .i64 0)).run Try.prog w = .ok (.bool y0) w := by
  intro y0 y1 y2 w
  first | rfl | (simp only [Instr.index, hu39, go_sem]; done) | (simp only [Instr.index, hu39, go_sem]; rfl)
 have hix39_1 : ∀ (y0 : Bool) (y1 : Bool) (y2 : Bool) (w : World), (Instr.index 39 (.agg #[.bool y0, .bool y1, .bool y2]) (.int .i64 1)).run Try.prog w = .ok (.bool y1) w := by
  intro y0 y1 y2 w
  first | rfl | (simp only [Instr.index, hu39, go_sem]; done) | (simp only [Instr.index, hu39, go_sem]; rfl)
 have hix39_2 : ∀ (y0 : Bool) (y1 : Bool) (y2 : Bool) (w : World), (Instr.index 39 (.agg #[.bool y0, .bool y1, .bool y2]) (.int .i64 2)).run Try.prog w = .ok (.bool y2) w := by
  intro y0 y1 y2 w
  first | rfl | (simp only [Instr.index, hu39, go_sem]; done) | (simp only [Instr.index, hu39, go_sem]; rfl)
 have HR0 := Aside0.mk hr0
 have HC0 := Aside0.mk hc0
 clear hr0 hc0
 have HR2 := Aside0.mk hr2
 have HC2 := Aside0.mk hc2
 clear hr2 hc2
 have HB := Aside0.mk (Below.refl w.heap.size w)
 have H : ((watersmeetlaw07_few.f k l0).bind fun t435 => (if t435 = true then (watersmeetlaw07_RejectMeans.j0 k l0 a1 l2 (decide ((l2.length : Int) > 64))) else (watersmeetlaw07_RejectMeans.j0 k l0 a1 l2 true))) = some r := h
 clear h
 have HC4 := Aside0.mk H
 clear H
 go_enter Try.func8, Try.ntmps8
 go_upto_region 1 with (fail)
 go_cut [20] (fun v20 wc => ∃ (kq : Nat) (x20_3 : Bool), v20 = .bool x20_3 ∧ Aside0 (watersmeetlaw07_RejectMeans.j0 kq l0 a1 l2 x20_3 = some r) ∧ Aside0 (kq ≤ k) ∧ Aside0 (Below w.heap.size w wc))
 case first =>
  have H := HC4.out
  clear HC4
  replace H := Option.bind_eq_some_iff.mp H
  obtain ⟨t435, A50, H⟩ := H
  replace H : (if t435 = true then (watersmeetlaw07_RejectMeans.j0 k l0 a1 l2 (decide ((l2.length : Int) > 64))) else (watersmeetlaw07_RejectMeans.j0 k l0 a1 l2 true)) = some r := H
  have A5 := Aside0.mk A50
  clear A50
  by_cases c6 : t435 = true
  ·subst c6
   have H1 : (watersmeetlaw07_RejectMeans.j0 k l0 a1 l2 (decide ((l2.length : Int) > 64))) = some r := by rw [if_pos rfl] at H; exact H
   clear H
   have H := H1
   clear H1
   have H' := Aside0.mk H
   clear H
   go_wp2_with (first | ((with_reducible refine gate_callee (f := 24) rfl ?_); refine goesL_ (some 14) rfl rfl Try.func24 (by kernel_rfl) rfl #[.slice A0 l0.length c0] rfl (by (try simp only [List.map_toArray, List.map_cons, List.map_nil]); first | done | rfl | (simp only [List.length_drop, List.length_take]; rfl)) ?_; (with_reducible refine (watersmeetlaw07_few.calls k _ _ l0 true _ ?side1 ?side2 A5.out).mono ?_); (case side1 => exact cd_ (Kd.C_below HR0.out HB.out)); (case side2 => exact HC0.out); rintro e w7 ⟨rfl, hb⟩; refine ⟨_, rfl, ?_⟩; replace HB := Aside0.mk (below_step (bl_ HB.out) hb); (try clear hb)))
   go_meet
   case rel => exact ⟨_, (decide ((l2.length : Int) > 64)), (by first | rfl | (simp; done) | (simp [*]; done) | (simp; decide)), H', ⟨by first | omega | exact Nat.le_refl _⟩, ⟨bl_ HB.out⟩⟩
  ·replace c6 := Bool.eq_false_iff.mpr c6
   subst c6
   have H1 : (watersmeetlaw07_RejectMeans.j0 k l0 a1 l2 true) = some r := by rw [if_neg (show ¬ (false = true) by decide)] at H; exact H
   clear H
   have H := H1
   clear H1
   have H' := Aside0.mk H
   clear H
   go_wp2_with (first | ((with_reducible refine gate_callee (f := 24) rfl ?_); refine goesL_ (some 14) rfl rfl Try.func24 (by kernel_rfl) rfl #[.slice A0 l0.length c0] rfl (by (try simp only [List.map_toArray, List.map_cons, List.map_nil]); first | done | rfl | (simp only [List.length_drop, List.length_take]; rfl)) ?_; (with_reducible refine (watersmeetlaw07_few.calls k _ _ l0 false _ ?side1 ?side2 A5.out).mono ?_); (case side1 => exact cd_ (Kd.C_below HR0.out HB.out)); (case side2 => exact HC0.out); rintro e w8 ⟨rfl, hb⟩; refine ⟨_, rfl, ?_⟩; replace HB := Aside0.mk (below_step (bl_ HB.out) hb); (try clear hb)))
   go_meet
   case rel => exact ⟨_, (true), (by first | rfl | (simp; done) | (simp [*]; done) | (simp; decide)), H', ⟨by first | omega | exact Nat.le_refl _⟩, ⟨bl_ HB.out⟩⟩
 case rest =>
  clear HC4
  try clear c2
  try clear p2
  try clear c6
  try clear c8
  obtain ⟨kq, x20_3, rfl, HA, HJ3, HB⟩ := hcut
  cases kq with
  | zero => exact absurd HA.out (by simp [watersmeetlaw07_RejectMeans.j0])
  | succ kj3 =>
   have H := HA.out
   clear HA
   simp only [watersmeetlaw07_RejectMeans.j0] at H
   by_cases c9 : x20_3 = true
   ·subst c9
    have H1 : ((watersmeetlaw07_awake.f kj3).bind fun t436 => (some t436)) = some r := by rw [if_pos rfl] at H; exact H
    clear H
    have H := H1
    clear H1
    replace H := Option.bind_eq_some_iff.mp H
    obtain ⟨t436, A100, H⟩ := H
    replace H : (some t436) = some r := H
    have A10 := Aside0.mk A100
    clear A100
    obtain rfl := Option.some.inj H
    go_wp2_with (first | ((with_reducible refine gate_callee (f := 25) rfl ?_); refine goesL_ (some 21) rfl rfl Try.func25 (by kernel_rfl) rfl #[] rfl (by (try simp only [List.map_toArray, List.map_cons, List.map_nil]); first | done | rfl | (simp only [List.length_drop, List.length_take]; rfl)) ?_; (with_reducible refine (watersmeetlaw07_awake.calls kj3  t436 _ A10.out).mono ?_); rintro e w11 ⟨rfl, hb⟩; refine ⟨_, rfl, ?_⟩; replace HB := Aside0.mk (below_step (bl_ HB.out) hb); (try clear hb)))
    go_ret
    exact ⟨by first | rfl | (simp [errW_none, errW_some] <;> rfl) | (simp [*, errW_none, errW_some] <;> rfl), by repeat (first | (with_reducible first | exact HB.out | apply below_alloc | apply pw_below_drewN | apply below_drew1) | exact HB.out)⟩
   ·replace c9 := Bool.eq_false_iff.mpr c9
    subst c9
    have H1 : (watersmeetlaw07_RejectMeans.l0 kj3 l0 a1 l2 (([] : List (List (S42)))) 0) = some r := by rw [if_neg (show ¬ (false = true) by decide)] at H; exact H
    clear H
    have H := H1
    clear H1
    obtain ⟨y437, hy437⟩ : ∃ y_ : List (List (S42)), y_ = (([] : List (List (S42)))) := ⟨_, rfl⟩
    replace H : (watersmeetlaw07_RejectMeans.l0 kj3 l0 a1 l2 y437 0) = some r := by first | (rw [hy437]; with_reducible exact H) | (have H2_ := (Option.bind_some _ _).symm.trans H; rw [hy437]; with_reducible exact H2_) | (have H2_ := (Option.bind_some _ _).symm.trans H; with_reducible exact H2_) | with_reducible exact H | (rw [hy437]; exact H) | exact H
    have Ny437 := Aside0.mk hy437
    clear hy437
    have H' := Aside0.mk H
    clear H
    go_wp2_with (first | ((with_reducible refine gate_dst (N := 22) rfl ?_); (try (refine gate_guard (by rfl) ?_; dsimp only)); refine Kd.S_lit (Kd.slice 42 k42) _ 53 ?hg (N := 22) ?hd (xs := ([] : List (List (S42)))) (inner := []) (ok := fun _ => True) (okp := fun _ => True) ?hr ?hp (fun _ hk => hk) trivial (Below.refl _ _) (Nat.le_refl _) (by simp) ?_; (case hd => rfl); (case hg => rfl); (case hr => first | (go_simp; done) | (go_simp; rfl)); (case hp => exact (Reps.none _ _)); intro v438 w12 ho13 hb hg_ hnew_; clear hg_ hnew_; (first | rw [← Ny437.out] at ho13 | (simp only [Int.reduceToNat] at ho13; rw [← Ny437.out] at ho13)); have HO439 := Aside0.mk (Kd.S_lower ho13 (below_size (bl_ HB.out))); replace HB := Aside0.mk (below_step (bl_ HB.out) hb); clear hb ho13))
    go_loopg [7, 8] kj3 (fun kq v7 v8 w' => ∃ (x7_2 : List (List (S42))) (x8_2 : Int), v8 = .int .i64 x8_2 ∧ Aside0 (watersmeetlaw07_RejectMeans.l0 kq l0 a1 l2 x7_2 x8_2 = some r) ∧ Aside0 (kq ≤ kj3) ∧ Aside0 (Kd.S (Kd.slice 42 k42) 53 w' w.heap.size (fun _ => True) v7 x7_2) ∧ Aside0 (Below w.heap.size w w'))
    case atStart => exact ⟨(y437), (0), (by first | rfl | (simp; done) | (simp [*]; done) | (simp; decide)), H', ⟨Nat.le_refl _⟩, ⟨by (with_reducible repeat (first | apply Kd.S_alloc | apply Kd.S_drewN | apply Kd.S_drew)); exact HO439.out⟩, ⟨bl_ HB.out⟩⟩
    case round =>
     clear H'
     try clear c2
     try clear p2
     try clear c6
     try clear c8
     try clear c9
     try clear p2
     obtain ⟨x7_2, x8_2, rfl, HA, HK2, HO_7, HB⟩ := hrel
     cases gk with
     | zero => exact absurd HA.out (by simp [watersmeetlaw07_RejectMeans.l0])
     | succ k2 =>
      have H := HA.out
      clear HA
      simp only [watersmeetlaw07_RejectMeans.l0] at H
      by_cases c14 : x8_2 < (l2.length : Int)
      ·rw [if_pos c14] at H
       have c14b0 : decide (x8_2 < (l2.length : Int)) = true := decide_eq_true c14
       clear c14
       by_cases c15 : 0 ≤ x8_2
       ·rw [if_pos c15] at H
        have c15b0 : decide (0 ≤ x8_2) = true := decide_eq_true c15
        clear c15
        by_cases c16 : ((rd_L6 l2 x8_2).length : Int) > 20
        ·rw [if_pos c16] at H
         have c16b0 : decide (20 < ((rd_L6 l2 x8_2).length : Int)) = true := decide_eq_true c16
         have c16b1 : decide (20 < (rd_L6 l2 x8_2).length) = true := decide_eq_true (by omega)
         clear c16
         replace H := Option.bind_eq_some_iff.mp H
         obtain ⟨t441, A170, H⟩ := H
         replace H : (some t441) = some r := H
         have A17 := Aside0.mk A170
         clear A170
         obtain rfl := Option.some.inj H
         have p440 : 0 ≤ (x8_2 : Int) := of_decide_eq_true (by first | (with_reducible assumption) | assumption)
         have q440 : x8_2 < (l2.length : Int) := of_decide_eq_true (by first | (with_reducible assumption) | assumption)
         obtain ⟨ad440, A440_0, c440_0, e440, hx440_0, hl440_0, hi440_0⟩ := at_L6 HR2.out x8_2 p440 q440
         cases e440
         replace hx440_0 := (HB.out.cell (World.block_lt_of_cell? w _ hx440_0)).trans hx440_0
         have HR440_0 := Aside0.mk hi440_0
         have HC440_0 := Aside0.mk hl440_0
         clear hi440_0 hl440_0
         replace p440 := eq_true p440
         replace q440 := eq_true q440
         go_wp2_with (first | ((with_reducible refine gate_callee (f := 25) rfl ?_); refine goesL_ (some 35) rfl rfl Try.func25 (by kernel_rfl) rfl #[] rfl (by (try simp only [List.map_toArray, List.map_cons, List.map_nil]); first | done | rfl | (simp only [List.length_drop, List.length_take]; rfl)) ?_; (with_reducible refine (watersmeetlaw07_awake.calls k2  t441 _ A17.out).mono ?_); rintro e w18 ⟨rfl, hb⟩; refine ⟨_, rfl, ?_⟩; replace HO_7 := Aside0.mk (Kd.S_below (by (with_reducible repeat (first | apply Kd.S_alloc | apply Kd.S_drewN | apply Kd.S_drew)); exact HO_7.out) hb); replace HB := Aside0.mk (below_step (bl_ HB.out) hb); (try clear hb)))
         go_ret
         exact ⟨by first | rfl | (simp [errW_none, errW_some] <;> rfl) | (simp [*, errW_none, errW_some] <;> rfl), by repeat (first | (with_reducible first | exact HB.out | apply below_alloc | apply pw_below_drewN | apply below_drew1) | exact HB.out)⟩
        ·rw [if_neg c16] at H
         have c16b0 : decide (20 < ((rd_L6 l2 x8_2).length : Int)) = false := decide_eq_false c16
         have c16b1 : decide (20 < (rd_L6 l2 x8_2).length) = false := decide_eq_false (by omega)
         clear c16
         obtain ⟨y442, hy442⟩ : ∃ y_ : List (S42), y_ = (([] : List (S42))) := ⟨_, rfl⟩
         replace H : (if y442.length + (rd_L6 l2 x8_2).length < 8796093022208 then ((some (y442 ++ (rd_L6 l2 x8_2) : List (S42))).bind fun y446 => ((watersmeetref01_Has.f k2 a1 x8_2).bind fun t449 => (if t449 = true then (watersmeetlaw07_RejectMeans.l1 k2 l0 a1 l2 x7_2 x8_2 y446 0) else (if x7_2.length < 5864062014805 then (watersmeetlaw07_RejectMeans.l0 k2 l0 a1 l2 (x7_2 ++ [y446]) (wrap64 (x8_2 + 1))) else (none))))) else (none)) = some r := by first | (rw [hy442]; with_reducible exact H) | (have H2_ := (Option.bind_some _ _).symm.trans H; rw [hy442]; with_reducible exact H2_) | (have H2_ := (Option.bind_some _ _).symm.trans H; with_reducible exact H2_) | with_reducible exact H | (rw [hy442]; exact H) | exact H
         have Ny442 := Aside0.mk hy442
         clear hy442
         by_cases c19 : y442.length + (rd_L6 l2 x8_2).length < 8796093022208
         ·rw [if_pos c19] at H
          have LMc19 := Aside0.mk c19
          clear c19
          obtain ⟨y446, hy446⟩ : ∃ y_ : List (S42), y_ = (y442 ++ (rd_L6 l2 x8_2)) := ⟨_, rfl⟩
          replace H : ((watersmeetref01_Has.f k2 a1 x8_2).bind fun t449 => (if t449 = true then (watersmeetlaw07_RejectMeans.l1 k2 l0 a1 l2 x7_2 x8_2 y446 0) else (if x7_2.length < 5864062014805 then (watersmeetlaw07_RejectMeans.l0 k2 l0 a1 l2 (x7_2 ++ [y446]) (wrap64 (x8_2 + 1))) else (none)))) = some r := by first | (rw [hy446]; with_reducible exact H) | (have H2_ := (Option.bind_some _ _).symm.trans H; rw [hy446]; with_reducible exact H2_) | (have H2_ := (Option.bind_some _ _).symm.trans H; with_reducible exact H2_) | with_reducible exact H | (rw [hy446]; exact H) | exact H
          have Ny446 := Aside0.mk hy446
          clear hy446
          replace H := Option.bind_eq_some_iff.mp H
          obtain ⟨t449, A200, H⟩ := H
          replace H : (if t449 = true then (watersmeetlaw07_RejectMeans.l1 k2 l0 a1 l2 x7_2 x8_2 y446 0) else (if x7_2.length < 5864062014805 then (watersmeetlaw07_RejectMeans.l0 k2 l0 a1 l2 (x7_2 ++ [y446]) (wrap64 (x8_2 + 1))) else (none))) = some r := H
          have A20 := Aside0.mk A200
          clear A200
          by_cases c21 : t449 = true
          ·subst c21
           have H1 : (watersmeetlaw07_RejectMeans.l1 k2 l0 a1 l2 x7_2 x8_2 y446 0) = some r := by rw [if_pos rfl] at H; exact H
           clear H
           have H := H1
           clear H1
           have H' := Aside0.mk H
           clear H
           have p440 : 0 ≤ (x8_2 : Int) := of_decide_eq_true (by first | (with_reducible assumption) | assumption)
           have q440 : x8_2 < (l2.length : Int) := of_decide_eq_true (by first | (with_reducible assumption) | assumption)
           obtain ⟨ad440, A440_0, c440_0, e440, hx440_0, hl440_0, hi440_0⟩ := at_L6 HR2.out x8_2 p440 q440
           cases e440
           replace hx440_0 := (HB.out.cell (World.block_lt_of_cell? w _ hx440_0)).trans hx440_0
           have HR440_0 := Aside0.mk hi440_0
           have HC440_0 := Aside0.mk hl440_0
           clear hi440_0 hl440_0
           replace p440 := eq_true p440
           replace q440 := eq_true q440
           go_wp2_with (first | ((with_reducible refine gate_dst (N := 36) rfl ?_); (try (refine gate_guard (by rfl) ?_; dsimp only)); refine Kd.R_lit k42 _ 42 ?hg (N := 36) ?hd (xs := ([] : List (S42))) (inner := []) (ok := fun _ => True) (okp := fun _ => True) ?hr ?hp (fun _ hk => hk) trivial (Below.refl _ _) (Nat.le_refl _) (by simp) ?_; (case hd => rfl); (case hg => rfl); (case hr => first | (go_simp; done) | (go_simp; rfl)); (case hp => exact (Reps.none _ _)); intro v443 w22 ho23 hb hg_ hnew_; clear hg_ hnew_; (first | rw [← Ny442.out] at ho23 | (simp only [Int.reduceToNat] at ho23; rw [← Ny442.out] at ho23)); replace HO_7 := Aside0.mk (Kd.S_elder' (by (with_reducible repeat (first | apply Kd.S_alloc | apply Kd.S_drewN | apply Kd.S_drew)); exact HO_7.out) (Kd.R_base ho23) hb); have HO444 := Aside0.mk (Kd.R_lower ho23 (below_size (bl_ HB.out))); replace HB := Aside0.mk (below_step (bl_ HB.out) hb); clear hb ho23; have p445 : 0 ≤ (x8_2 : Int) := of_decide_eq_true (by first | (with_reducible assumption) | assumption); have q445 : x8_2 < (l2.length : Int) := of_decide_eq_true (by first | (with_reducible assumption) | assumption); obtain ⟨ad445, A445_0, c445_0, e445, hx445_0, hl445_0, hi445_0⟩ := at_L6 HR2.out x8_2 p445 q445; obtain rfl : ad440 = ad445 := (by injection e445); replace hx445_0 := (HB.out.cell (World.block_lt_of_cell? w _ hx445_0)).trans hx445_0; have HR445_0 := Aside0.mk hi445_0; have HC445_0 := Aside0.mk hl445_0; clear hi445_0 hl445_0; replace p445 := eq_true p445; replace q445 := eq_true q445) | ((with_reducible refine gate_builtin (b := .append) (xs := #[.tmp 36, .tmp 40]) rfl ?_); (try (refine gate_guard (by rfl) ?_; dsimp only)); at_builtin; refine Kd.R_append_rows k42 (w0 := w) w.heap.size rfl (.tmp 36) (.tmp 40) 53 42 (.agg #[(.bool false), (.int .i64 0)]) 16 rfl Try.underlying53 info42 rfl (by decide) (by omega) v443 y442 (rd_L6 l2 x8_2) _ _ _ (fun _ => True) (fun _ => False) rfl rfl ?aO ?aR (fun _ _ h => h) (fun _ h => h.elim) ?aF ?aB ?aS ?aL ?_; (case aR => exact cd_ (Kd.C_below HR445_0.out HB.out)); (case aB => exact (bl_ HB.out)); (case aF => exact (fun _ _ => trivial)); (case aO => exact (rd_ HO444.out)); (case aS => exact (below_size (bl_ HB.out))); (case aL => have := LMc19.out; omega); intro v447 w24 ho hb hg hat; rw [← Ny446.out] at ho; have n0_ := Aside0.mk (Kd.S_after (ok := (fun _ => True)) (by (with_reducible repeat (first | apply Kd.S_alloc | apply Kd.S_drewN | apply Kd.S_drew)); exact HO_7.out) hg hat); have n1_ := Aside0.mk (hb); have n2_ := Aside0.mk (ho); clear HO_7; clear HB; clear HO444; have HO_7 := n0_; have HB := n1_; have HO448 := n2_; clear n0_ n1_ n2_; clear ho hb hg hat) | ((with_reducible refine gate_callee (f := 30) rfl ?_); refine goesL_ (some 44) rfl rfl Try.func30 (by kernel_rfl) rfl #[.int .u64 a1, .int .i64 x8_2] rfl (by (try simp only [List.map_toArray, List.map_cons, List.map_nil]); first | done | rfl | (simp only [List.length_drop, List.length_take]; rfl)) ?_; (with_reducible refine (watersmeetref01_Has.calls k2 a1 x8_2 true _ A20.out).mono ?_); rintro e w' ⟨rfl, ⟨nd, rfl⟩⟩; refine ⟨_, rfl, ?_⟩))
           go_loopg [10] k2 (fun kq v10 w' => ∃ (x9_3 : List (S42)) (x10_3 : Int), v10 = .int .i64 x10_3 ∧ Aside0 (watersmeetlaw07_RejectMeans.l1 kq l0 a1 l2 x7_2 x8_2 x9_3 x10_3 = some r) ∧ Aside0 (kq ≤ k2) ∧ Aside0 (Kd.S (Kd.slice 42 k42) 53 w' w.heap.size (fun k_ => some k_ ≠ (v447 : Value).ownBlock) u7 x7_2) ∧ Aside0 (Kd.R k42 42 w' w.heap.size (fun _ => True) v447 x9_3) ∧ Aside0 (Below w.heap.size w w'))
           case atStart => exact ⟨(y446), (0), (by first | rfl | (simp; done) | (simp [*]; done) | (simp; decide)), H', ⟨Nat.le_refl _⟩, ⟨by (with_reducible repeat (first | apply Kd.S_alloc | apply Kd.S_drewN | apply Kd.S_drew)); exact Kd.S_mono HO_7.out (fun _ hk => hk.2)⟩, ⟨rd_ HO448.out⟩, ⟨bl_ HB.out⟩⟩
           case round =>
            clear H'
            try clear c1
            try clear c2
            try clear p2
            try clear c3
            try clear c4
            try clear p4
            try clear q4
            try clear hx4
            try clear c6
            try clear p6
            try clear c8
            try clear c9
            try clear c14
            try clear c14b0
            try clear c15
            try clear c15b0
            try clear c16
            try clear c16b0
            try clear c16b1
            try clear c19
            try clear c21
            try clear c24
            try clear hx440_0
            try clear hx445_0
            try clear p2
            try clear p440
            try clear p445
            try clear q440
            try clear q445
            obtain ⟨x9_3, x10_3, rfl, HA, HK3, HO_7, HO_9, HB⟩ := hrel
            cases gk with
            | zero => exact absurd HA.out (by simp [watersmeetlaw07_RejectMeans.l1])
            | succ k3 =>
             have H := HA.out
             clear HA
             simp only [watersmeetlaw07_RejectMeans.l1] at H
             by_cases c25 : x10_3 < (x9_3.length : Int)
             ·rw [if_pos c25] at H
              have c25b0 : decide (x10_3 < (x9_3.length : Int)) = true := decide_eq_true c25
              clear c25
              by_cases c26 : 0 ≤ x10_3
              ·rw [if_pos c26] at H
               have c26b0 : decide (0 ≤ x10_3) = true := decide_eq_true c26
               clear c26
               obtain ⟨y450, hy450⟩ : ∃ y_ : List (S42), y_ = (x9_3.set (x10_3 : Int).toNat (⟨true, 0⟩ : S42)) := ⟨_, rfl⟩
               replace H : (watersmeetlaw07_RejectMeans.l1 k3 l0 a1 l2 x7_2 x8_2 y450 (wrap64 (x10_3 + 1))) = some r := by first | (rw [hy450]; with_reducible exact H) | (have H2_ := (Option.bind_some _ _).symm.trans H; rw [hy450]; with_reducible exact H2_) | (have H2_ := (Option.bind_some _ _).symm.trans H; with_reducible exact H2_) | with_reducible exact H | (rw [hy450]; exact H) | exact H
               have Ny450 := Aside0.mk hy450
               clear hy450
               have H' := Aside0.mk H
               clear H
               obtain ⟨Ao28, co28, eo28⟩ := Kd.R_slice HO_9.out
               subst eo28
               have p27 : 0 ≤ (x10_3 : Int) := of_decide_eq_true (by first | (with_reducible assumption) | assumption)
               have q27 : (x10_3 : Int) < ((x9_3.length : Int) : Int) := of_decide_eq_true (by first | (with_reducible assumption) | assumption)
               obtain ⟨go27, co27, eo27, gb27, gl27, cl27, HG27⟩ := Kd.R_form HO_9.out (by omega)
               (first | cases eo27 | (injection eo27 with ea_ en_ ec_; (first | subst ea_ | (injection ea_ with ea_; subst ea_)); subst ec_; clear en_))
               have GB27 := Aside0.mk gb27
               have GG27 := Aside0.mk HG27
               clear gb27 gl27 HG27
               obtain ⟨ce27, hcl27, hM27, hcc27, hfr27⟩ := Kd.R_elem HO_9.out z42 (x10_3 : Int) p27 q27
               obtain rfl := k42_openM hM27
               have hx27_0 : wr.cell? ⟨go27, (x10_3 : Int).toNat * 2, none⟩ = some (.bool ((rd_T42 x9_3 x10_3).f0)) := hcc27 0 _ rfl
               have hx27_1 : wr.cell? ⟨go27, (x10_3 : Int).toNat * 2 + 1, none⟩ = some (.int .i64 ((rd_T42 x9_3 x10_3).f1)) := hcc27 1 _ rfl
               have hf27_0 : wr.frozen? ⟨go27, (x10_3 : Int).toNat * 2, none⟩ = false := hfr27 0
               have hf27_1 : wr.frozen? ⟨go27, (x10_3 : Int).toNat * 2 + 1, none⟩ = false := hfr27 1
               clear hcl27 hcc27 hfr27 hM27
               replace p27 := eq_true p27
               replace q27 := eq_true q27
               have HX29 := Aside0.mk (show Kd.R k42 42 wr w.heap.size (fun _ => True) (.slice (some ⟨go27, 0, none⟩) x9_3.length co28) x9_3 from (rd_ HO_9.out))
               obtain ⟨ce29, hcl29, hM29, hcc29, hfr29⟩ := Kd.R_elem HX29.out z42 (x10_3 : Int) (of_decide_eq_true (by first | (with_reducible assumption) | assumption)) (by have h_ : (x10_3 : Int) < ((x9_3.length : Int) : Int) := of_decide_eq_true (by first | (with_reducible assumption) | assumption); first | exact h_ | (have e_ := (Kd.R_reads' HO_9.out).1; omega) | simpa using h_)
               obtain rfl := k42_openM hM29
               have HP29 := Kd.R_seg HX29.out (x10_3 : Int) (of_decide_eq_true (by first | (with_reducible assumption) | assumption)) (by have h_ : (x10_3 : Int) < ((x9_3.length : Int) : Int) := of_decide_eq_true (by first | (with_reducible assumption) | assumption); first | exact h_ | (have e_ := (Kd.R_reads' HO_9.out).1; omega) | simpa using h_) (seg := [.bool true, .int .i64 0]) (j := 0) hcl29 hcc29 (show 2 ≤ 2 from by decide) (x' := (⟨true, 0⟩ : S42)) (k42_mkM _ _ _ (⟨true, 0⟩ : S42) ) (fun _ hk => hk)
               have hx29_0 := hcc29 0 _ rfl
               (try simp only [show (k42).sz = 2 from rfl, Nat.mul_one, Nat.add_zero] at hx29_0)
               have hf29_0 := hfr29 0
               (try simp only [show (k42).sz = 2 from rfl, Nat.mul_one, Nat.add_zero] at hf29_0)
               have hx29_1 := hcc29 1 _ rfl
               (try simp only [show (k42).sz = 2 from rfl, Nat.mul_one, Nat.add_zero] at hx29_1)
               have hf29_1 := hfr29 1
               (try simp only [show (k42).sz = 2 from rfl, Nat.mul_one, Nat.add_zero] at hf29_1)
               clear hcl29 hcc29 hfr29 hM29
               go_wp2_with (first | ((with_reducible refine gate_store (t := 42) (p := 54) rfl ?_); refine store_event (t := 42) (p := 54) (v := ?vo_w30) (w1 := ((wr.setCell ⟨go27, (x10_3 : Int).toNat * 2, none⟩ (.bool true)).setCell ⟨go27, (x10_3 : Int).toNat * 2 + 1, none⟩ (.int .i64 0))) ?hg ?ho ?hn ?hr ?_; (case ho => rfl); (case hg => rfl); (case hn => rfl); (case hr => first | (go_simp; done) | (go_simp; rfl)); intro w30 hw; have hg : wr.grownBy w30 (some go27) := (by rw [hw]; exact HP29.2); have hp_ : Kd.R k42 42 w30 w.heap.size (fun _ => True) (.slice (some ⟨go27, 0, none⟩) x9_3.length co28) y450 := (by rw [hw, Ny450.out]; exact HP29.1); clear HP29; replace HO_7 := Aside0.mk (Kd.S_after (v := (.slice (some ⟨go27, 0, none⟩) x9_3.length co28)) (v1 := (.slice (some ⟨go27, 0, none⟩) x9_3.length co28)) (ok := (fun _ => True)) (by (with_reducible repeat (first | apply Kd.S_alloc | apply Kd.S_drewN | apply Kd.S_drew)); exact Kd.S_mono HO_7.out (fun _ hk => ⟨trivial, hk⟩)) hg (.inl rfl)); replace HO_9 := Aside0.mk (hp_); replace HB := Aside0.mk ((by rw [hw]; exact below_set (below_set (HB.out) GB27.out) GB27.out : Below w.heap.size w w30)); clear hg hw hp_))
               go_roundg k3
               case measure => have := HJ3.out; have := HK2.out; have := HK3.out; omega
               case rel => exact ⟨(y450), (wrap64 (x10_3 + 1)), (by first | rfl | (simp; done) | (simp [*]; done) | (simp; decide)), H', ⟨by have := HJ3.out; have := HK2.out; have := HK3.out; omega⟩, ⟨by (with_reducible repeat (first | apply Kd.S_alloc | apply Kd.S_drewN | apply Kd.S_drew)); exact Kd.S_mono HO_7.out (fun _ hk => hk.2)⟩, ⟨rd_ HO_9.out⟩, ⟨bl_ HB.out⟩⟩
              ·rw [if_neg c26] at H
               exact absurd H (by simp)
             ·rw [if_neg c25] at H
              have c25b0 : decide (x10_3 < (x9_3.length : Int)) = false := decide_eq_false c25
              clear c25
              by_cases c31 : x7_2.length < 5864062014805
              ·rw [if_pos c31] at H
               have LMc31 := Aside0.mk c31
               clear c31
               obtain ⟨y451, hy451⟩ : ∃ y_ : List (List (S42)), y_ = (x7_2 ++ [x9_3]) := ⟨_, rfl⟩
               replace H : (watersmeetlaw07_RejectMeans.l0 k3 l0 a1 l2 y451 (wrap64 (x8_2 + 1))) = some r := by first | (rw [hy451]; with_reducible exact H) | (have H2_ := (Option.bind_some _ _).symm.trans H; rw [hy451]; with_reducible exact H2_) | (have H2_ := (Option.bind_some _ _).symm.trans H; with_reducible exact H2_) | with_reducible exact H | (rw [hy451]; exact H) | exact H
               have Ny451 := Aside0.mk hy451
               clear hy451
               have H' := Aside0.mk H
               clear H
               obtain ⟨Ao32, co32, eo32⟩ := Kd.R_slice HO_9.out
               subst eo32
               go_wp2_with (first | ((with_reducible refine gate_builtin (b := .append) (xs := #[.tmp 55, .tmp 57]) rfl ?_); (try (refine gate_guard (by rfl) ?_; dsimp only)); at_builtin; refine Kd.S_append (Kd.slice 42 k42) (w0 := w) w.heap.size rfl (.tmp 55) (.tmp 57) 51 53 (.slice none 0 0) 24 rfl Try.underlying51 info53 rfl (by decide) (by omega) u7 x7_2 x9_3 [.slice Ao32 x9_3.length co32] (fun _ => True) (fun k_ => some k_ = (.slice Ao32 x9_3.length co32 : Value).ownBlock) rfl rfl ?aP (fun k_ hk_ => ((Kd.R_mono (ok' := fun k_ => ((fun _ => True)) k_ ∧ some k_ ≠ (u7 : Value).ownBlock) (Kd.R_apart' (HO_9.out) (Kd.S_typed HO_7.out) (by decide)) (fun k_ hk => ⟨trivial, hk.2⟩))).1 k_ hk_.symm) ?aF ?aO ?aB ?aS ?aL ?_; (case aP => exact Kd.M_row (Kd.R_mono (Kd.R_tight rfl (Kd.R_mono (ok' := fun k_ => ((fun _ => True)) k_ ∧ some k_ ≠ (u7 : Value).ownBlock) (Kd.R_apart' (HO_9.out) (Kd.S_typed HO_7.out) (by decide)) (fun k_ hk => ⟨trivial, hk.2⟩))) (fun _ h_ => h_))); (case aB => exact (bl_ HB.out)); (case aF => exact (fun _ _ => trivial)); (case aO => exact (by (with_reducible repeat (first | apply Kd.S_alloc | apply Kd.S_drewN | apply Kd.S_drew)); exact Kd.S_mono HO_7.out (fun k_ hk => ⟨trivial, fun e_ => hk e_⟩))); (case aS => exact (below_size (bl_ HB.out))); (case aL => have := LMc31.out; omega); intro v452 w33 ho hb hg hat; rw [← Ny451.out] at ho; have n0_ := Aside0.mk (hb); have n1_ := Aside0.mk (ho); clear HB; clear HO_7; clear HO_9; have HB := n0_; have HO453 := n1_; clear n0_ n1_; clear ho hb hg hat))
               go_roundg k3
               case measure => have := HJ3.out; have := HK2.out; have := HK3.out; omega
               case rel => exact ⟨(y451), (wrap64 (x8_2 + 1)), (by first | rfl | (simp; done) | (simp [*]; done) | (simp; decide)), H', ⟨by have := HJ3.out; have := HK2.out; have := HK3.out; omega⟩, ⟨by (with_reducible repeat (first | apply Kd.S_alloc | apply Kd.S_drewN | apply Kd.S_drew)); exact HO453.out⟩, ⟨bl_ HB.out⟩⟩
              ·rw [if_neg c31] at H
               exact absurd H (by simp)
          ·replace c21 := Bool.eq_false_iff.mpr c21
           subst c21
           have H1 : (if x7_2.length < 5864062014805 then (watersmeetlaw07_RejectMeans.l0 k2 l0 a1 l2 (x7_2 ++ [y446]) (wrap64 (x8_2 + 1))) else (none)) = some r := by rw [if_neg (show ¬ (false = true) by decide)] at H; exact H
           clear H
           have H := H1
           clear H1
           by_cases c34 : x7_2.length < 5864062014805
           ·rw [if_pos c34] at H
            have LMc34 := Aside0.mk c34
            clear c34
            obtain ⟨y454, hy454⟩ : ∃ y_ : List (List (S42)), y_ = (x7_2 ++ [y446]) := ⟨_, rfl⟩
            replace H : (watersmeetlaw07_RejectMeans.l0 k2 l0 a1 l2 y454 (wrap64 (x8_2 + 1))) = some r := by first | (rw [hy454]; with_reducible exact H) | (have H2_ := (Option.bind_some _ _).symm.trans H; rw [hy454]; with_reducible exact H2_) | (have H2_ := (Option.bind_some _ _).symm.trans H; with_reducible exact H2_) | with_reducible exact H | (rw [hy454]; exact H) | exact H
            have Ny454 := Aside0.mk hy454
            clear hy454
            have H' := Aside0.mk H
            clear H
            have p440 : 0 ≤ (x8_2 : Int) := of_decide_eq_true (by first | (with_reducible assumption) | assumption)
            have q440 : x8_2 < (l2.length : Int) := of_decide_eq_true (by first | (with_reducible assumption) | assumption)
            obtain ⟨ad440, A440_0, c440_0, e440, hx440_0, hl440_0, hi440_0⟩ := at_L6 HR2.out x8_2 p440 q440
            cases e440
            replace hx440_0 := (HB.out.cell (World.block_lt_of_cell? w _ hx440_0)).trans hx440_0
            have HR440_0 := Aside0.mk hi440_0
            have HC440_0 := Aside0.mk hl440_0
            clear hi440_0 hl440_0
            replace p440 := eq_true p440
            replace q440 := eq_true q440
            go_wp2_with (first | ((with_reducible refine gate_dst (N := 36) rfl ?_); (try (refine gate_guard (by rfl) ?_; dsimp only)); refine Kd.R_lit k42 _ 42 ?hg (N := 36) ?hd (xs := ([] : List (S42))) (inner := []) (ok := fun _ => True) (okp := fun _ => True) ?hr ?hp (fun _ hk => hk) trivial (Below.refl _ _) (Nat.le_refl _) (by simp) ?_; (case hd => rfl); (case hg => rfl); (case hr => first | (go_simp; done) | (go_simp; rfl)); (case hp => exact (Reps.none _ _)); intro v443 w35 ho36 hb hg_ hnew_; clear hg_ hnew_; (first | rw [← Ny442.out] at ho36 | (simp only [Int.reduceToNat] at ho36; rw [← Ny442.out] at ho36)); replace HO_7 := Aside0.mk (Kd.S_elder' (by (with_reducible repeat (first | apply Kd.S_alloc | apply Kd.S_drewN | apply Kd.S_drew)); exact HO_7.out) (Kd.R_base ho36) hb); have HO444 := Aside0.mk (Kd.R_lower ho36 (below_size (bl_ HB.out))); replace HB := Aside0.mk (below_step (bl_ HB.out) hb); clear hb ho36; have p445 : 0 ≤ (x8_2 : Int) := of_decide_eq_true (by first | (with_reducible assumption) | assumption); have q445 : x8_2 < (l2.length : Int) := of_decide_eq_true (by first | (with_reducible assumption) | assumption); obtain ⟨ad445, A445_0, c445_0, e445, hx445_0, hl445_0, hi445_0⟩ := at_L6 HR2.out x8_2 p445 q445; obtain rfl : ad440 = ad445 := (by injection e445); replace hx445_0 := (HB.out.cell (World.block_lt_of_cell? w _ hx445_0)).trans hx445_0; have HR445_0 := Aside0.mk hi445_0; have HC445_0 := Aside0.mk hl445_0; clear hi445_0 hl445_0; replace p445 := eq_true p445; replace q445 := eq_true q445) | ((with_reducible refine gate_builtin (b := .append) (xs := #[.tmp 36, .tmp 40]) rfl ?_); (try (refine gate_guard (by rfl) ?_; dsimp only)); at_builtin; refine Kd.R_append_rows k42 (w0 := w) w.heap.size rfl (.tmp 36) (.tmp 40) 53 42 (.agg #[(.bool false), (.int .i64 0)]) 16 rfl Try.underlying53 info42 rfl (by decide) (by omega) v443 y442 (rd_L6 l2 x8_2) _ _ _ (fun _ => True) (fun _ => False) rfl rfl ?aO ?aR (fun _ _ h => h) (fun _ h => h.elim) ?aF ?aB ?aS ?aL ?_; (case aR => exact cd_ (Kd.C_below HR445_0.out HB.out)); (case aB => exact (bl_ HB.out)); (case aF => exact (fun _ _ => trivial)); (case aO => exact (rd_ HO444.out)); (case aS => exact (below_size (bl_ HB.out))); (case aL => have := LMc19.out; omega); intro v447 w37 ho hb hg hat; rw [← Ny446.out] at ho; have n0_ := Aside0.mk (Kd.S_after (ok := (fun _ => True)) (by (with_reducible repeat (first | apply Kd.S_alloc | apply Kd.S_drewN | apply Kd.S_drew)); exact HO_7.out) hg hat); have n1_ := Aside0.mk (hb); have n2_ := Aside0.mk (ho); clear HO_7; clear HB; clear HO444; have HO_7 := n0_; have HB := n1_; have HO448 := n2_; clear n0_ n1_ n2_; clear ho hb hg hat) | ((with_reducible refine gate_callee (f := 30) rfl ?_); refine goesL_ (some 44) rfl rfl Try.func30 (by kernel_rfl) rfl #[.int .u64 a1, .int .i64 x8_2] rfl (by (try simp only [List.map_toArray, List.map_cons, List.map_nil]); first | done | rfl | (simp only [List.length_drop, List.length_take]; rfl)) ?_; (with_reducible refine (watersmeetref01_Has.calls k2 a1 x8_2 false _ A20.out).mono ?_); rintro e w' ⟨rfl, ⟨nd, rfl⟩⟩; refine ⟨_, rfl, ?_⟩; obtain ⟨Ao39, co39, eo39⟩ := Kd.R_slice HO448.out; subst eo39) | ((with_reducible refine gate_builtin (b := .append) (xs := #[.tmp 55, .tmp 57]) rfl ?_); (try (refine gate_guard (by rfl) ?_; dsimp only)); at_builtin; refine Kd.S_append (Kd.slice 42 k42) (w0 := w) w.heap.size rfl (.tmp 55) (.tmp 57) 51 53 (.slice none 0 0) 24 rfl Try.underlying51 info53 rfl (by decide) (by omega) u7 x7_2 y446 [.slice Ao39 y446.length co39] (fun _ => True) (fun k_ => some k_ = (.slice Ao39 y446.length co39 : Value).ownBlock) rfl rfl ?aP (fun k_ hk_ => ((Kd.R_mono (ok' := fun k_ => ((fun _ => True)) k_ ∧ some k_ ≠ (u7 : Value).ownBlock) (Kd.R_apart' (HO448.out) (Kd.S_typed HO_7.out) (by decide)) (fun k_ hk => ⟨trivial, hk.2⟩))).1 k_ hk_.symm) ?aF ?aO ?aB ?aS ?aL ?_; (case aP => exact Kd.M_row (Kd.R_mono (Kd.R_tight rfl (Kd.R_mono (ok' := fun k_ => ((fun _ => True)) k_ ∧ some k_ ≠ (u7 : Value).ownBlock) (Kd.R_apart' (HO448.out) (Kd.S_typed HO_7.out) (by decide)) (fun k_ hk => ⟨trivial, hk.2⟩))) (fun _ h_ => h_))); (case aB => exact (bl_ HB.out)); (case aF => exact (fun _ _ => trivial)); (case aO => exact (by (with_reducible repeat (first | apply Kd.S_alloc | apply Kd.S_drewN | apply Kd.S_drew)); exact Kd.S_mono HO_7.out (fun k_ hk => ⟨trivial, fun e_ => hk.2 e_⟩))); (case aS => exact (below_size (bl_ HB.out))); (case aL => have := LMc34.out; omega); intro v455 w38 ho hb hg hat; rw [← Ny454.out] at ho; have n0_ := Aside0.mk (hb); have n1_ := Aside0.mk (ho); clear HB; clear HO_7; clear HO448; have HB := n0_; have HO456 := n1_; clear n0_ n1_; clear ho hb hg hat))
            go_roundg k2
            case measure => have := HJ3.out; have := HK2.out; omega
            case rel => exact ⟨(y454), (wrap64 (x8_2 + 1)), (by first | rfl | (simp; done) | (simp [*]; done) | (simp; decide)), H', ⟨by have := HJ3.out; have := HK2.out; omega⟩, ⟨by (with_reducible repeat (first | apply Kd.S_alloc | apply Kd.S_drewN | apply Kd.S_drew)); exact HO456.out⟩, ⟨bl_ HB.out⟩⟩
           ·rw [if_neg c34] at H
            exact absurd H (by simp)
         ·rw [if_neg c19] at H
          exact absurd H (by simp)
       ·rw [if_neg c15] at H
        exact absurd H (by simp)
      ·rw [if_neg c14] at H
       have c14b0 : decide (x8_2 < (l2.length : Int)) = false := decide_eq_false c14
       clear c14
       have H' := Aside0.mk H
       clear H
       go_wp2
       go_loopg [11] k2 (fun kq v11 w' => ∃ (x11_3 : Int), v11 = .int .i64 x11_3 ∧ Aside0 (watersmeetlaw07_RejectMeans.l2 kq l0 a1 x7_2 x11_3 = some r) ∧ Aside0 (kq ≤ k2) ∧ Aside0 (Kd.S (Kd.slice 42 k42) 53 w' w.heap.size (fun _ => True) u7 x7_2) ∧ Aside0 (Below w.heap.size w w'))
       case atStart => exact ⟨(0), (by first | rfl | (simp; done) | (simp [*]; done) | (simp; decide)), H', ⟨Nat.le_refl _⟩, ⟨by (with_reducible repeat (first | apply Kd.S_alloc | apply Kd.S_drewN | apply Kd.S_drew)); exact HO_7.out⟩, ⟨bl_ HB.out⟩⟩
       case round =>
        clear H'
        try clear c1
        try clear c2
        try clear p2
        try clear q2
        try clear hx2
        try clear c3
        try clear c4
        try clear p4
        try clear q4
        try clear hx4
        try clear c6
        try clear p6
        try clear c8
        try clear c9
        try clear c14
        try clear c14b0
        try clear c15
        try clear c15b0
        try clear c16
        try clear c16b0
        try clear c16b1
        try clear c19
        try clear c21
        try clear c24
        try clear c25
        try clear c25b0
        try clear c26
        try clear c26b0
        try clear c27
        try clear p27
        try clear q27
        try clear hx27
        try clear hf27
        try clear c29
        try clear hx29
        try clear hf29
        try clear c30
        try clear c31
        try clear c34
        try clear hx27_0
        try clear hx27_1
        try clear hx29_0
        try clear hx29_1
        try clear hx440_0
        try clear hx445_0
        try clear p2
        try clear p27
        try clear p4
        try clear p440
        try clear p445
        try clear p6
        try clear q27
        try clear q4
        try clear q440
        try clear q445
        obtain ⟨x11_3, rfl, HA, HK3, HO_7, HB⟩ := hrel
        cases gk with
        | zero => exact absurd HA.out (by simp [watersmeetlaw07_RejectMeans.l2])
        | succ k3 =>
         have H := HA.out
         clear HA
         simp only [watersmeetlaw07_RejectMeans.l2] at H
         by_cases c40 : x11_3 < (l0.length : Int)
         ·rw [if_pos c40] at H
          have c40b0 : decide (x11_3 < (l0.length : Int)) = true := decide_eq_true c40
          clear c40
          by_cases c41 : 0 ≤ x11_3
          ·rw [if_pos c41] at H
           have c41b0 : decide (0 ≤ x11_3) = true := decide_eq_true c41
           clear c41
           replace H := Option.bind_eq_some_iff.mp H
           obtain ⟨t462, A420, H⟩ := H
           replace H : (if t462 < 0 then (none) else (if t462 > 2 then (none) else ((reject_May.f k3 ((rd_T46 l0 x11_3).f0) ((rd_T46 l0 x11_3).f1) ((rd_T46 l0 x11_3).f2) ((rd_T46 l0 x11_3).f3.f0) ((rd_T46 l0 x11_3).f3.f1) ((rd_T46 l0 x11_3).f3.f2) ((rd_T46 l0 x11_3).f3.f3.f0) ((rd_T46 l0 x11_3).f3.f3.f1) ((rd_T46 l0 x11_3).f4.f0) ((rd_T46 l0 x11_3).f4.f1) ((rd_T46 l0 x11_3).f4.f2) ((rd_T46 l0 x11_3).f4.f3.f0) ((rd_T46 l0 x11_3).f4.f3.f1) ((rd_T46 l0 x11_3).f5) a1).bind fun bt464 => (if t462 = 0 then (if bt464.1 = true then (watersmeetlaw07_RejectMeans.l2 k3 l0 a1 x7_2 (wrap64 (x11_3 + 1))) else (none)) else (if t462 = 1 then (if bt464.2.1 = true then (watersmeetlaw07_RejectMeans.l2 k3 l0 a1 x7_2 (wrap64 (x11_3 + 1))) else (none)) else (if t462 = 2 then (if bt464.2.2 = true then (watersmeetlaw07_RejectMeans.l2 k3 l0 a1 x7_2 (wrap64 (x11_3 + 1))) else (none)) else (none))))))) = some r := H
           have A42 := Aside0.mk A420
           clear A420
           by_cases c43 : t462 < 0
           ·rw [if_pos c43] at H
            exact absurd H (by simp)
           ·rw [if_neg c43] at H
            have c43b0 : decide (t462 < 0) = false := decide_eq_false c43
            clear c43
            by_cases c44 : t462 > 2
            ·rw [if_pos c44] at H
             exact absurd H (by simp)
            ·rw [if_neg c44] at H
             have c44b0 : decide (2 < t462) = false := decide_eq_false c44
             clear c44
             replace H := Option.bind_eq_some_iff.mp H
             obtain ⟨⟨t464, t465, t466⟩, A450, H⟩ := H
             replace H : (if t462 = 0 then (if t464 = true then (watersmeetlaw07_RejectMeans.l2 k3 l0 a1 x7_2 (wrap64 (x11_3 + 1))) else (none)) else (if t462 = 1 then (if t465 = true then (watersmeetlaw07_RejectMeans.l2 k3 l0 a1 x7_2 (wrap64 (x11_3 + 1))) else (none)) else (if t462 = 2 then (if t466 = true then (watersmeetlaw07_RejectMeans.l2 k3 l0 a1 x7_2 (wrap64 (x11_3 + 1))) else (none)) else (none)))) = some r := H
             have A45 := Aside0.mk A450
             clear A450
             by_cases c46 : t462 = 0
             ·subst c46
              have H1 : (if t464 = true then (watersmeetlaw07_RejectMeans.l2 k3 l0 a1 x7_2 (wrap64 (x11_3 + 1))) else (none)) = some r := by rw [if_pos rfl] at H; exact H
              clear H
              have H := H1
              clear H1
              by_cases c47 : t464 = true
              ·subst c47
               have H1 : (watersmeetlaw07_RejectMeans.l2 k3 l0 a1 x7_2 (wrap64 (x11_3 + 1))) = some r := by rw [if_pos rfl] at H; exact H
               clear H
               have H := H1
               clear H1
               have H' := Aside0.mk H
               clear H
               have p461 : 0 ≤ (x11_3 : Int) := of_decide_eq_true (by first | (with_reducible assumption) | assumption)
               have q461 : x11_3 < (l0.length : Int) := of_decide_eq_true (by first | (with_reducible assumption) | assumption)
               obtain ⟨ad461, A461_13, c461_13, e461, hx461_0, hx461_1, hx461_2, hx461_3, hx461_4, hx461_5, hx461_6, hx461_7, hx461_8, hx461_9, hx461_10, hx461_11, hx461_12, hx461_13, hl461_13, hi461_13⟩ := at_T46 HR0.out x11_3 p461 q461
               cases e461
               replace hx461_0 := (HB.out.cell (World.block_lt_of_cell? w _ hx461_0)).trans hx461_0
               replace hx461_1 := (HB.out.cell (World.block_lt_of_cell? w _ hx461_1)).trans hx461_1
               replace hx461_2 := (HB.out.cell (World.block_lt_of_cell? w _ hx461_2)).trans hx461_2
               replace hx461_3 := (HB.out.cell (World.block_lt_of_cell? w _ hx461_3)).trans hx461_3
               replace hx461_4 := (HB.out.cell (World.block_lt_of_cell? w _ hx461_4)).trans hx461_4
               replace hx461_5 := (HB.out.cell (World.block_lt_of_cell? w _ hx461_5)).trans hx461_5
               replace hx461_6 := (HB.out.cell (World.block_lt_of_cell? w _ hx461_6)).trans hx461_6
               replace hx461_7 := (HB.out.cell (World.block_lt_of_cell? w _ hx461_7)).trans hx461_7
               replace hx461_8 := (HB.out.cell (World.block_lt_of_cell? w _ hx461_8)).trans hx461_8
               replace hx461_9 := (HB.out.cell (World.block_lt_of_cell? w _ hx461_9)).trans hx461_9
               replace hx461_10 := (HB.out.cell (World.block_lt_of_cell? w _ hx461_10)).trans hx461_10
               replace hx461_11 := (HB.out.cell (World.block_lt_of_cell? w _ hx461_11)).trans hx461_11
               replace hx461_12 := (HB.out.cell (World.block_lt_of_cell? w _ hx461_12)).trans hx461_12
               replace hx461_13 := (HB.out.cell (World.block_lt_of_cell? w _ hx461_13)).trans hx461_13
               have HR461_13 := Aside0.mk hi461_13
               have HC461_13 := Aside0.mk hl461_13
               clear hi461_13 hl461_13
               replace p461 := eq_true p461
               replace q461 := eq_true q461
               obtain ⟨Ao48, co48, eo48⟩ := Kd.S_slice HO_7.out
               subst eo48
               go_wp2_with (first | ((with_reducible refine gate_callee (f := 31) rfl ?_); refine goesL_ (some 70) rfl rfl Try.func31 (by kernel_rfl) rfl #[.agg #[.int .i64 ((rd_T46 l0 x11_3).f0), .int .i64 ((rd_T46 l0 x11_3).f1), .int .i64 ((rd_T46 l0 x11_3).f2), .int .i64 ((rd_T46 l0 x11_3).f3.f0), .int .i64 ((rd_T46 l0 x11_3).f3.f1), .int .i64 ((rd_T46 l0 x11_3).f3.f2), .bool ((rd_T46 l0 x11_3).f3.f3.f0), .int .i64 ((rd_T46 l0 x11_3).f3.f3.f1), .int .i64 ((rd_T46 l0 x11_3).f4.f0), .int .i64 ((rd_T46 l0 x11_3).f4.f1), .int .i64 ((rd_T46 l0 x11_3).f4.f2), .bool ((rd_T46 l0 x11_3).f4.f3.f0), .int .i64 ((rd_T46 l0 x11_3).f4.f3.f1), .slice A461_13 ((rd_T46 l0 x11_3).f5).length c461_13], .slice Ao48 x7_2.length co48] rfl (by (try simp only [List.map_toArray, List.map_cons, List.map_nil]); first | done | rfl | (simp only [List.length_drop, List.length_take]; rfl)) ?_; (with_reducible refine (pred_Of.calls k3 ((rd_T46 l0 x11_3).f0) ((rd_T46 l0 x11_3).f1) ((rd_T46 l0 x11_3).f2) ((rd_T46 l0 x11_3).f3.f0) ((rd_T46 l0 x11_3).f3.f1) ((rd_T46 l0 x11_3).f3.f2) ((rd_T46 l0 x11_3).f3.f3.f0) ((rd_T46 l0 x11_3).f3.f3.f1) ((rd_T46 l0 x11_3).f4.f0) ((rd_T46 l0 x11_3).f4.f1) ((rd_T46 l0 x11_3).f4.f2) ((rd_T46 l0 x11_3).f4.f3.f0) ((rd_T46 l0 x11_3).f4.f3.f1) _ _ ((rd_T46 l0 x11_3).f5) _ _ x7_2 0 _ ?side1 ?side2 ?side3 ?side4 A42.out).mono ?_); (case side1 => exact cd_ (Kd.C_below HR461_13.out HB.out)); (case side2 => exact HC461_13.out); (case side3 => exact cd_ ((Kd.S_reads' HO_7.out).2.2)); (case side4 => exact (Kd.S_reads' HO_7.out).2.1); rintro e w49 ⟨rfl, hb⟩; refine ⟨_, rfl, ?_⟩; replace HO_7 := Aside0.mk (Kd.S_below (by (with_reducible repeat (first | apply Kd.S_alloc | apply Kd.S_drewN | apply Kd.S_drew)); exact HO_7.out) hb); replace HB := Aside0.mk (below_step (bl_ HB.out) hb); (try clear hb); have p463 : 0 ≤ (x11_3 : Int) := of_decide_eq_true (by first | (with_reducible assumption) | assumption); have q463 : x11_3 < (l0.length : Int) := of_decide_eq_true (by first | (with_reducible assumption) | assumption); obtain ⟨ad463, A463_13, c463_13, e463, hx463_0, hx463_1, hx463_2, hx463_3, hx463_4, hx463_5, hx463_6, hx463_7, hx463_8, hx463_9, hx463_10, hx463_11, hx463_12, hx463_13, hl463_13, hi463_13⟩ := at_T46 HR0.out x11_3 p463 q463; obtain rfl : ad461 = ad463 := (by injection e463); replace hx463_0 := (HB.out.cell (World.block_lt_of_cell? w _ hx463_0)).trans hx463_0; replace hx463_1 := (HB.out.cell (World.block_lt_of_cell? w _ hx463_1)).trans hx463_1; replace hx463_2 := (HB.out.cell (World.block_lt_of_cell? w _ hx463_2)).trans hx463_2; replace hx463_3 := (HB.out.cell (World.block_lt_of_cell? w _ hx463_3)).trans hx463_3; replace hx463_4 := (HB.out.cell (World.block_lt_of_cell? w _ hx463_4)).trans hx463_4; replace hx463_5 := (HB.out.cell (World.block_lt_of_cell? w _ hx463_5)).trans hx463_5; replace hx463_6 := (HB.out.cell (World.block_lt_of_cell? w _ hx463_6)).trans hx463_6; replace hx463_7 := (HB.out.cell (World.block_lt_of_cell? w _ hx463_7)).trans hx463_7; replace hx463_8 := (HB.out.cell (World.block_lt_of_cell? w _ hx463_8)).trans hx463_8; replace hx463_9 := (HB.out.cell (World.block_lt_of_cell? w _ hx463_9)).trans hx463_9; replace hx463_10 := (HB.out.cell (World.block_lt_of_cell? w _ hx463_10)).trans hx463_10; replace hx463_11 := (HB.out.cell (World.block_lt_of_cell? w _ hx463_11)).trans hx463_11; replace hx463_12 := (HB.out.cell (World.block_lt_of_cell? w _ hx463_12)).trans hx463_12; replace hx463_13 := (HB.out.cell (World.block_lt_of_cell? w _ hx463_13)).trans hx463_13; have HR463_13 := Aside0.mk hi463_13; have HC463_13 := Aside0.mk hl463_13; clear hi463_13 hl463_13; replace p463 := eq_true p463; replace q463 := eq_true q463) | (go_at_call 26; (with_reducible refine (reject_May.calls k3 ((rd_T46 l0 x11_3).f0) ((rd_T46 l0 x11_3).f1) ((rd_T46 l0 x11_3).f2) ((rd_T46 l0 x11_3).f3.f0) ((rd_T46 l0 x11_3).f3.f1) ((rd_T46 l0 x11_3).f3.f2) ((rd_T46 l0 x11_3).f3.f3.f0) ((rd_T46 l0 x11_3).f3.f3.f1) ((rd_T46 l0 x11_3).f4.f0) ((rd_T46 l0 x11_3).f4.f1) ((rd_T46 l0 x11_3).f4.f2) ((rd_T46 l0 x11_3).f4.f3.f0) ((rd_T46 l0 x11_3).f4.f3.f1) _ _ ((rd_T46 l0 x11_3).f5) a1 true t465 t466 _ ?side1 ?side2 A45.out).mono ?_); (case side1 => exact cd_ (Kd.C_below HR463_13.out HB.out)); (case side2 => exact HC463_13.out); rintro e w50 ⟨rfl, hb⟩; replace HO_7 := Aside0.mk (Kd.S_below (by (with_reducible repeat (first | apply Kd.S_alloc | apply Kd.S_drewN | apply Kd.S_drew)); exact HO_7.out) hb); replace HB := Aside0.mk (below_step (bl_ HB.out) hb); (try clear hb)))
               go_roundg k3
               case measure => have := HJ3.out; have := HK2.out; have := HK3.out; omega
               case rel => exact ⟨(wrap64 (x11_3 + 1)), (by first | rfl | (simp; done) | (simp [*]; done) | (simp; decide)), H', ⟨by have := HJ3.out; have := HK2.out; have := HK3.out; omega⟩, ⟨by (with_reducible repeat (first | apply Kd.S_alloc | apply Kd.S_drewN | apply Kd.S_drew)); exact HO_7.out⟩, ⟨bl_ HB.out⟩⟩
              ·replace c47 := Bool.eq_false_iff.mpr c47
               subst c47
               have H1 : (none) = some r := by rw [if_neg (show ¬ (false = true) by decide)] at H; exact H
               clear H
               have H := H1
               clear H1
               exact absurd H (by simp)
             ·rw [if_neg c46] at H
              by_cases c51 : t462 = 1
              ·subst c51
               have H1 : (if t465 = true then (watersmeetlaw07_RejectMeans.l2 k3 l0 a1 x7_2 (wrap64 (x11_3 + 1))) else (none)) = some r := by rw [if_pos rfl] at H; exact H
               clear H
               have H := H1
               clear H1
               by_cases c52 : t465 = true
               ·subst c52
                have H1 : (watersmeetlaw07_RejectMeans.l2 k3 l0 a1 x7_2 (wrap64 (x11_3 + 1))) = some r := by rw [if_pos rfl] at H; exact H
                clear H
                have H := H1
                clear H1
                have H' := Aside0.mk H
                clear H
                have p461 : 0 ≤ (x11_3 : Int) := of_decide_eq_true (by first | (with_reducible assumption) | assumption)
                have q461 : x11_3 < (l0.length : Int) := of_decide_eq_true (by first | (with_reducible assumption) | assumption)
                obtain ⟨ad461, A461_13, c461_13, e461, hx461_0, hx461_1, hx461_2, hx461_3, hx461_4, hx461_5, hx461_6, hx461_7, hx461_8, hx461_9, hx461_10, hx461_11, hx461_12, hx461_13, hl461_13, hi461_13⟩ := at_T46 HR0.out x11_3 p461 q461
                cases e461
                replace hx461_0 := (HB.out.cell (World.block_lt_of_cell? w _ hx461_0)).trans hx461_0
                replace hx461_1 := (HB.out.cell (World.block_lt_of_cell? w _ hx461_1)).trans hx461_1
                replace hx461_2 := (HB.out.cell (World.block_lt_of_cell? w _ hx461_2)).trans hx461_2
                replace hx461_3 := (HB.out.cell (World.block_lt_of_cell? w _ hx461_3)).trans hx461_3
                replace hx461_4 := (HB.out.cell (World.block_lt_of_cell? w _ hx461_4)).trans hx461_4
                replace hx461_5 := (HB.out.cell (World.block_lt_of_cell? w _ hx461_5)).trans hx461_5
                replace hx461_6 := (HB.out.cell (World.block_lt_of_cell? w _ hx461_6)).trans hx461_6
                replace hx461_7 := (HB.out.cell (World.block_lt_of_cell? w _ hx461_7)).trans hx461_7
                replace hx461_8 := (HB.out.cell (World.block_lt_of_cell? w _ hx461_8)).trans hx461_8
                replace hx461_9 := (HB.out.cell (World.block_lt_of_cell? w _ hx461_9)).trans hx461_9
                replace hx461_10 := (HB.out.cell (World.block_lt_of_cell? w _ hx461_10)).trans hx461_10
                replace hx461_11 := (HB.out.cell (World.block_lt_of_cell? w _ hx461_11)).trans hx461_11
                replace hx461_12 := (HB.out.cell (World.block_lt_of_cell? w _ hx461_12)).trans hx461_12
                replace hx461_13 := (HB.out.cell (World.block_lt_of_cell? w _ hx461_13)).trans hx461_13
                have HR461_13 := Aside0.mk hi461_13
                have HC461_13 := Aside0.mk hl461_13
                clear hi461_13 hl461_13
                replace p461 := eq_true p461
                replace q461 := eq_true q461
                obtain ⟨Ao53, co53, eo53⟩ := Kd.S_slice HO_7.out
                subst eo53
                go_wp2_with (first | ((with_reducible refine gate_callee (f := 31) rfl ?_); refine goesL_ (some 70) rfl rfl Try.func31 (by kernel_rfl) rfl #[.agg #[.int .i64 ((rd_T46 l0 x11_3).f0), .int .i64 ((rd_T46 l0 x11_3).f1), .int .i64 ((rd_T46 l0 x11_3).f2), .int .i64 ((rd_T46 l0 x11_3).f3.f0), .int .i64 ((rd_T46 l0 x11_3).f3.f1), .int .i64 ((rd_T46 l0 x11_3).f3.f2), .bool ((rd_T46 l0 x11_3).f3.f3.f0), .int .i64 ((rd_T46 l0 x11_3).f3.f3.f1), .int .i64 ((rd_T46 l0 x11_3).f4.f0), .int .i64 ((rd_T46 l0 x11_3).f4.f1), .int .i64 ((rd_T46 l0 x11_3).f4.f2), .bool ((rd_T46 l0 x11_3).f4.f3.f0), .int .i64 ((rd_T46 l0 x11_3).f4.f3.f1), .slice A461_13 ((rd_T46 l0 x11_3).f5).length c461_13], .slice Ao53 x7_2.length co53] rfl (by (try simp only [List.map_toArray, List.map_cons, List.map_nil]); first | done | rfl | (simp only [List.length_drop, List.length_take]; rfl)) ?_; (with_reducible refine (pred_Of.calls k3 ((rd_T46 l0 x11_3).f0) ((rd_T46 l0 x11_3).f1) ((rd_T46 l0 x11_3).f2) ((rd_T46 l0 x11_3).f3.f0) ((rd_T46 l0 x11_3).f3.f1) ((rd_T46 l0 x11_3).f3.f2) ((rd_T46 l0 x11_3).f3.f3.f0) ((rd_T46 l0 x11_3).f3.f3.f1) ((rd_T46 l0 x11_3).f4.f0) ((rd_T46 l0 x11_3).f4.f1) ((rd_T46 l0 x11_3).f4.f2) ((rd_T46 l0 x11_3).f4.f3.f0) ((rd_T46 l0 x11_3).f4.f3.f1) _ _ ((rd_T46 l0 x11_3).f5) _ _ x7_2 1 _ ?side1 ?side2 ?side3 ?side4 A42.out).mono ?_); (case side1 => exact cd_ (Kd.C_below HR461_13.out HB.out)); (case side2 => exact HC461_13.out); (case side3 => exact cd_ ((Kd.S_reads' HO_7.out).2.2)); (case side4 => exact (Kd.S_reads' HO_7.out).2.1); rintro e w54 ⟨rfl, hb⟩; refine ⟨_, rfl, ?_⟩; replace HO_7 := Aside0.mk (Kd.S_below (by (with_reducible repeat (first | apply Kd.S_alloc | apply Kd.S_drewN | apply Kd.S_drew)); exact HO_7.out) hb); replace HB := Aside0.mk (below_step (bl_ HB.out) hb); (try clear hb); have p463 : 0 ≤ (x11_3 : Int) := of_decide_eq_true (by first | (with_reducible assumption) | assumption); have q463 : x11_3 < (l0.length : Int) := of_decide_eq_true (by first | (with_reducible assumption) | assumption); obtain ⟨ad463, A463_13, c463_13, e463, hx463_0, hx463_1, hx463_2, hx463_3, hx463_4, hx463_5, hx463_6, hx463_7, hx463_8, hx463_9, hx463_10, hx463_11, hx463_12, hx463_13, hl463_13, hi463_13⟩ := at_T46 HR0.out x11_3 p463 q463; obtain rfl : ad461 = ad463 := (by injection e463); replace hx463_0 := (HB.out.cell (World.block_lt_of_cell? w _ hx463_0)).trans hx463_0; replace hx463_1 := (HB.out.cell (World.block_lt_of_cell? w _ hx463_1)).trans hx463_1; replace hx463_2 := (HB.out.cell (World.block_lt_of_cell? w _ hx463_2)).trans hx463_2; replace hx463_3 := (HB.out.cell (World.block_lt_of_cell? w _ hx463_3)).trans hx463_3; replace hx463_4 := (HB.out.cell (World.block_lt_of_cell? w _ hx463_4)).trans hx463_4; replace hx463_5 := (HB.out.cell (World.block_lt_of_cell? w _ hx463_5)).trans hx463_5; replace hx463_6 := (HB.out.cell (World.block_lt_of_cell? w _ hx463_6)).trans hx463_6; replace hx463_7 := (HB.out.cell (World.block_lt_of_cell? w _ hx463_7)).trans hx463_7; replace hx463_8 := (HB.out.cell (World.block_lt_of_cell? w _ hx463_8)).trans hx463_8; replace hx463_9 := (HB.out.cell (World.block_lt_of_cell? w _ hx463_9)).trans hx463_9; replace hx463_10 := (HB.out.cell (World.block_lt_of_cell? w _ hx463_10)).trans hx463_10; replace hx463_11 := (HB.out.cell (World.block_lt_of_cell? w _ hx463_11)).trans hx463_11; replace hx463_12 := (HB.out.cell (World.block_lt_of_cell? w _ hx463_12)).trans hx463_12; replace hx463_13 := (HB.out.cell (World.block_lt_of_cell? w _ hx463_13)).trans hx463_13; have HR463_13 := Aside0.mk hi463_13; have HC463_13 := Aside0.mk hl463_13; clear hi463_13 hl463_13; replace p463 := eq_true p463; replace q463 := eq_true q463) | (go_at_call 26; (with_reducible refine (reject_May.calls k3 ((rd_T46 l0 x11_3).f0) ((rd_T46 l0 x11_3).f1) ((rd_T46 l0 x11_3).f2) ((rd_T46 l0 x11_3).f3.f0) ((rd_T46 l0 x11_3).f3.f1) ((rd_T46 l0 x11_3).f3.f2) ((rd_T46 l0 x11_3).f3.f3.f0) ((rd_T46 l0 x11_3).f3.f3.f1) ((rd_T46 l0 x11_3).f4.f0) ((rd_T46 l0 x11_3).f4.f1) ((rd_T46 l0 x11_3).f4.f2) ((rd_T46 l0 x11_3).f4.f3.f0) ((rd_T46 l0 x11_3).f4.f3.f1) _ _ ((rd_T46 l0 x11_3).f5) a1 t464 true t466 _ ?side1 ?side2 A45.out).mono ?_); (case side1 => exact cd_ (Kd.C_below HR463_13.out HB.out)); (case side2 => exact HC463_13.out); rintro e w55 ⟨rfl, hb⟩; replace HO_7 := Aside0.mk (Kd.S_below (by (with_reducible repeat (first | apply Kd.S_alloc | apply Kd.S_drewN | apply Kd.S_drew)); exact HO_7.out) hb); replace HB := Aside0.mk (below_step (bl_ HB.out) hb); (try clear hb)))
                go_roundg k3
                case measure => have := HJ3.out; have := HK2.out; have := HK3.out; omega
                case rel => exact ⟨(wrap64 (x11_3 + 1)), (by first | rfl | (simp; done) | (simp [*]; done) | (simp; decide)), H', ⟨by have := HJ3.out; have := HK2.out; have := HK3.out; omega⟩, ⟨by (with_reducible repeat (first | apply Kd.S_alloc | apply Kd.S_drewN | apply Kd.S_drew)); exact HO_7.out⟩, ⟨bl_ HB.out⟩⟩
               ·replace c52 := Bool.eq_false_iff.mpr c52
                subst c52
                have H1 : (none) = some r := by rw [if_neg (show ¬ (false = true) by decide)] at H; exact H
                clear H
                have H := H1
                clear H1
                exact absurd H (by simp)
              ·rw [if_neg c51] at H
               by_cases c56 : t462 = 2
               ·subst c56
                have H1 : (if t466 = true then (watersmeetlaw07_RejectMeans.l2 k3 l0 a1 x7_2 (wrap64 (x11_3 + 1))) else (none)) = some r := by rw [if_pos rfl] at H; exact H
                clear H
                have H := H1
                clear H1
                by_cases c57 : t466 = true
                ·subst c57
                 have H1 : (watersmeetlaw07_RejectMeans.l2 k3 l0 a1 x7_2 (wrap64 (x11_3 + 1))) = some r := by rw [if_pos rfl] at H; exact H
                 clear H
                 have H := H1
                 clear H1
                 have H' := Aside0.mk H
                 clear H
                 have p461 : 0 ≤ (x11_3 : Int) := of_decide_eq_true (by first | (with_reducible assumption) | assumption)
                 have q461 : x11_3 < (l0.length : Int) := of_decide_eq_true (by first | (with_reducible assumption) | assumption)
                 obtain ⟨ad461, A461_13, c461_13, e461, hx461_0, hx461_1, hx461_2, hx461_3, hx461_4, hx461_5, hx461_6, hx461_7, hx461_8, hx461_9, hx461_10, hx461_11, hx461_12, hx461_13, hl461_13, hi461_13⟩ := at_T46 HR0.out x11_3 p461 q461
                 cases e461
                 replace hx461_0 := (HB.out.cell (World.block_lt_of_cell? w _ hx461_0)).trans hx461_0
                 replace hx461_1 := (HB.out.cell (World.block_lt_of_cell? w _ hx461_1)).trans hx461_1
                 replace hx461_2 := (HB.out.cell (World.block_lt_of_cell? w _ hx461_2)).trans hx461_2
                 replace hx461_3 := (HB.out.cell (World.block_lt_of_cell? w _ hx461_3)).trans hx461_3
                 replace hx461_4 := (HB.out.cell (World.block_lt_of_cell? w _ hx461_4)).trans hx461_4
                 replace hx461_5 := (HB.out.cell (World.block_lt_of_cell? w _ hx461_5)).trans hx461_5
                 replace hx461_6 := (HB.out.cell (World.block_lt_of_cell? w _ hx461_6)).trans hx461_6
                 replace hx461_7 := (HB.out.cell (World.block_lt_of_cell? w _ hx461_7)).trans hx461_7
                 replace hx461_8 := (HB.out.cell (World.block_lt_of_cell? w _ hx461_8)).trans hx461_8
                 replace hx461_9 := (HB.out.cell (World.block_lt_of_cell? w _ hx461_9)).trans hx461_9
                 replace hx461_10 := (HB.out.cell (World.block_lt_of_cell? w _ hx461_10)).trans hx461_10
                 replace hx461_11 := (HB.out.cell (World.block_lt_of_cell? w _ hx461_11)).trans hx461_11
                 replace hx461_12 := (HB.out.cell (World.block_lt_of_cell? w _ hx461_12)).trans hx461_12
                 replace hx461_13 := (HB.out.cell (World.block_lt_of_cell? w _ hx461_13)).trans hx461_13
                 have HR461_13 := Aside0.mk hi461_13
                 have HC461_13 := Aside0.mk hl461_13
                 clear hi461_13 hl461_13
                 replace p461 := eq_true p461
                 replace q461 := eq_true q461
                 obtain ⟨Ao58, co58, eo58⟩ := Kd.S_slice HO_7.out
                 subst eo58
                 go_wp2_with (first | ((with_reducible refine gate_callee (f := 31) rfl ?_); refine goesL_ (some 70) rfl rfl Try.func31 (by kernel_rfl) rfl #[.agg #[.int .i64 ((rd_T46 l0 x11_3).f0), .int .i64 ((rd_T46 l0 x11_3).f1), .int .i64 ((rd_T46 l0 x11_3).f2), .int .i64 ((rd_T46 l0 x11_3).f3.f0), .int .i64 ((rd_T46 l0 x11_3).f3.f1), .int .i64 ((rd_T46 l0 x11_3).f3.f2), .bool ((rd_T46 l0 x11_3).f3.f3.f0), .int .i64 ((rd_T46 l0 x11_3).f3.f3.f1), .int .i64 ((rd_T46 l0 x11_3).f4.f0), .int .i64 ((rd_T46 l0 x11_3).f4.f1), .int .i64 ((rd_T46 l0 x11_3).f4.f2), .bool ((rd_T46 l0 x11_3).f4.f3.f0), .int .i64 ((rd_T46 l0 x11_3).f4.f3.f1), .slice A461_13 ((rd_T46 l0 x11_3).f5).length c461_13], .slice Ao58 x7_2.length co58] rfl (by (try simp only [List.map_toArray, List.map_cons, List.map_nil]); first | done | rfl | (simp only [List.length_drop, List.length_take]; rfl)) ?_; (with_reducible refine (pred_Of.calls k3 ((rd_T46 l0 x11_3).f0) ((rd_T46 l0 x11_3).f1) ((rd_T46 l0 x11_3).f2) ((rd_T46 l0 x11_3).f3.f0) ((rd_T46 l0 x11_3).f3.f1) ((rd_T46 l0 x11_3).f3.f2) ((rd_T46 l0 x11_3).f3.f3.f0) ((rd_T46 l0 x11_3).f3.f3.f1) ((rd_T46 l0 x11_3).f4.f0) ((rd_T46 l0 x11_3).f4.f1) ((rd_T46 l0 x11_3).f4.f2) ((rd_T46 l0 x11_3).f4.f3.f0) ((rd_T46 l0 x11_3).f4.f3.f1) _ _ ((rd_T46 l0 x11_3).f5) _ _ x7_2 2 _ ?side1 ?side2 ?side3 ?side4 A42.out).mono ?_); (case side1 => exact cd_ (Kd.C_below HR461_13.out HB.out)); (case side2 => exact HC461_13.out); (case side3 => exact cd_ ((Kd.S_reads' HO_7.out).2.2)); (case side4 => exact (Kd.S_reads' HO_7.out).2.1); rintro e w59 ⟨rfl, hb⟩; refine ⟨_, rfl, ?_⟩; replace HO_7 := Aside0.mk (Kd.S_below (by (with_reducible repeat (first | apply Kd.S_alloc | apply Kd.S_drewN | apply Kd.S_drew)); exact HO_7.out) hb); replace HB := Aside0.mk (below_step (bl_ HB.out) hb); (try clear hb); have p463 : 0 ≤ (x11_3 : Int) := of_decide_eq_true (by first | (with_reducible assumption) | assumption); have q463 : x11_3 < (l0.length : Int) := of_decide_eq_true (by first | (with_reducible assumption) | assumption); obtain ⟨ad463, A463_13, c463_13, e463, hx463_0, hx463_1, hx463_2, hx463_3, hx463_4, hx463_5, hx463_6, hx463_7, hx463_8, hx463_9, hx463_10, hx463_11, hx463_12, hx463_13, hl463_13, hi463_13⟩ := at_T46 HR0.out x11_3 p463 q463; obtain rfl : ad461 = ad463 := (by injection e463); replace hx463_0 := (HB.out.cell (World.block_lt_of_cell? w _ hx463_0)).trans hx463_0; replace hx463_1 := (HB.out.cell (World.block_lt_of_cell? w _ hx463_1)).trans hx463_1; replace hx463_2 := (HB.out.cell (World.block_lt_of_cell? w _ hx463_2)).trans hx463_2; replace hx463_3 := (HB.out.cell (World.block_lt_of_cell? w _ hx463_3)).trans hx463_3; replace hx463_4 := (HB.out.cell (World.block_lt_of_cell? w _ hx463_4)).trans hx463_4; replace hx463_5 := (HB.out.cell (World.block_lt_of_cell? w _ hx463_5)).trans hx463_5; replace hx463_6 := (HB.out.cell (World.block_lt_of_cell? w _ hx463_6)).trans hx463_6; replace hx463_7 := (HB.out.cell (World.block_lt_of_cell? w _ hx463_7)).trans hx463_7; replace hx463_8 := (HB.out.cell (World.block_lt_of_cell? w _ hx463_8)).trans hx463_8; replace hx463_9 := (HB.out.cell (World.block_lt_of_cell? w _ hx463_9)).trans hx463_9; replace hx463_10 := (HB.out.cell (World.block_lt_of_cell? w _ hx463_10)).trans hx463_10; replace hx463_11 := (HB.out.cell (World.block_lt_of_cell? w _ hx463_11)).trans hx463_11; replace hx463_12 := (HB.out.cell (World.block_lt_of_cell? w _ hx463_12)).trans hx463_12; replace hx463_13 := (HB.out.cell (World.block_lt_of_cell? w _ hx463_13)).trans hx463_13; have HR463_13 := Aside0.mk hi463_13; have HC463_13 := Aside0.mk hl463_13; clear hi463_13 hl463_13; replace p463 := eq_true p463; replace q463 := eq_true q463) | (go_at_call 26; (with_reducible refine (reject_May.calls k3 ((rd_T46 l0 x11_3).f0) ((rd_T46 l0 x11_3).f1) ((rd_T46 l0 x11_3).f2) ((rd_T46 l0 x11_3).f3.f0) ((rd_T46 l0 x11_3).f3.f1) ((rd_T46 l0 x11_3).f3.f2) ((rd_T46 l0 x11_3).f3.f3.f0) ((rd_T46 l0 x11_3).f3.f3.f1) ((rd_T46 l0 x11_3).f4.f0) ((rd_T46 l0 x11_3).f4.f1) ((rd_T46 l0 x11_3).f4.f2) ((rd_T46 l0 x11_3).f4.f3.f0) ((rd_T46 l0 x11_3).f4.f3.f1) _ _ ((rd_T46 l0 x11_3).f5) a1 t464 t465 true _ ?side1 ?side2 A45.out).mono ?_); (case side1 => exact cd_ (Kd.C_below HR463_13.out HB.out)); (case side2 => exact HC463_13.out); rintro e w60 ⟨rfl, hb⟩; replace HO_7 := Aside0.mk (Kd.S_below (by (with_reducible repeat (first | apply Kd.S_alloc | apply Kd.S_drewN | apply Kd.S_drew)); exact HO_7.out) hb); replace HB := Aside0.mk (below_step (bl_ HB.out) hb); (try clear hb)))
                 go_roundg k3
                 case measure => have := HJ3.out; have := HK2.out; have := HK3.out; omega
                 case rel => exact ⟨(wrap64 (x11_3 + 1)), (by first | rfl | (simp; done) | (simp [*]; done) | (simp; decide)), H', ⟨by have := HJ3.out; have := HK2.out; have := HK3.out; omega⟩, ⟨by (with_reducible repeat (first | apply Kd.S_alloc | apply Kd.S_drewN | apply Kd.S_drew)); exact HO_7.out⟩, ⟨bl_ HB.out⟩⟩
                ·replace c57 := Bool.eq_false_iff.mpr c57
                 subst c57
                 have H1 : (none) = some r := by rw [if_neg (show ¬ (false = true) by decide)] at H; exact H
                 clear H
                 have H := H1
                 clear H1
                 exact absurd H (by simp)
               ·rw [if_neg c56] at H
                exact absurd H (by simp)
          ·rw [if_neg c41] at H
           exact absurd H (by simp)
         ·rw [if_neg c40] at H
          have c40b0 : decide (x11_3 < (l0.length : Int)) = false := decide_eq_false c40
          clear c40
          replace H := Option.bind_eq_some_iff.mp H
          obtain ⟨t457, A610, H⟩ := H
          replace H : (if t457 = true then ((pred_All.f k3 l0 x7_2).bind fun t458 => (if t458 = 2 then (none) else ((watersmeetlaw07_awake.f k3).bind fun t459 => (some t459)))) else ((watersmeetlaw07_awake.f k3).bind fun t460 => (some t460))) = some r := H
          have A61 := Aside0.mk A610
          clear A610
          by_cases c62 : t457 = true
          ·subst c62
           have H1 : ((pred_All.f k3 l0 x7_2).bind fun t458 => (if t458 = 2 then (none) else ((watersmeetlaw07_awake.f k3).bind fun t459 => (some t459)))) = some r := by rw [if_pos rfl] at H; exact H
           clear H
           have H := H1
           clear H1
           replace H := Option.bind_eq_some_iff.mp H
           obtain ⟨t458, A630, H⟩ := H
           replace H : (if t458 = 2 then (none) else ((watersmeetlaw07_awake.f k3).bind fun t459 => (some t459))) = some r := H
           have A63 := Aside0.mk A630
           clear A630
           by_cases c64 : t458 = 2
           ·rw [if_pos c64] at H
            exact absurd H (by simp)
           ·rw [if_neg c64] at H
            have c64b0 : (t458 == 2) = false := beq_eq_false_iff_ne.mpr c64
            have c64b1 : (t458 != 2) = true := bne_iff_ne.mpr c64
            replace H := Option.bind_eq_some_iff.mp H
            obtain ⟨t459, A650, H⟩ := H
            replace H : (some t459) = some r := H
            have A65 := Aside0.mk A650
            clear A650
            obtain rfl := Option.some.inj H
            go_wp2_with (first | ((with_reducible refine gate_callee (f := 28) rfl ?_); refine goesL_ (some 90) rfl rfl Try.func28 (by kernel_rfl) rfl #[.slice A0 l0.length c0, .int .u64 a1] rfl (by (try simp only [List.map_toArray, List.map_cons, List.map_nil]); first | done | rfl | (simp only [List.length_drop, List.length_take]; rfl)) ?_; (with_reducible refine (reject_Rejects.calls k3 _ _ l0 a1 true _ ?side1 ?side2 A61.out).mono ?_); (case side1 => exact cd_ (Kd.C_below HR0.out HB.out)); (case side2 => exact HC0.out); rintro e w66 ⟨rfl, hb⟩; refine ⟨_, rfl, ?_⟩; replace HO_7 := Aside0.mk (Kd.S_below (by (with_reducible repeat (first | apply Kd.S_alloc | apply Kd.S_drewN | apply Kd.S_drew)); exact HO_7.out) hb); replace HB := Aside0.mk (below_step (bl_ HB.out) hb); (try clear hb); obtain ⟨Ao67, co67, eo67⟩ := Kd.S_slice HO_7.out; subst eo67) | (go_at_call 32; (with_reducible refine (pred_All.calls k3 _ _ l0 _ _ x7_2 t458 _ ?side1 ?side2 ?side3 ?side4 A63.out).mono ?_); (case side1 => exact cd_ (Kd.C_below HR0.out HB.out)); (case side2 => exact HC0.out); (case side3 => exact cd_ ((Kd.S_reads' HO_7.out).2.2)); (case side4 => exact (Kd.S_reads' HO_7.out).2.1); rintro e w68 ⟨rfl, hb⟩; replace HO_7 := Aside0.mk (Kd.S_below (by (with_reducible repeat (first | apply Kd.S_alloc | apply Kd.S_drewN | apply Kd.S_drew)); exact HO_7.out) hb); replace HB := Aside0.mk (below_step (bl_ HB.out) hb); (try clear hb)) | (go_at_call 25; (with_reducible refine (watersmeetlaw07_awake.calls k3  t459 _ A65.out).mono ?_); rintro e w69 ⟨rfl, hb⟩; replace HO_7 := Aside0.mk (Kd.S_below (by (with_reducible repeat (first | apply Kd.S_alloc | apply Kd.S_drewN | apply Kd.S_drew)); exact HO_7.out) hb); replace HB := Aside0.mk (below_step (bl_ HB.out) hb); (try clear hb)))
            go_ret
            exact ⟨by first | rfl | (simp [errW_none, errW_some] <;> rfl) | (simp [*, errW_none, errW_some] <;> rfl), by repeat (first | (with_reducible first | exact HB.out | apply below_alloc | apply pw_below_drewN | apply below_drew1) | exact HB.out)⟩
          ·replace c62 := Bool.eq_false_iff.mpr c62
           subst c62
           have H1 : ((watersmeetlaw07_awake.f k3).bind fun t460 => (some t460)) = some r := by rw [if_neg (show ¬ (false = true) by decide)] at H; exact H
           clear H
           have H := H1
           clear H1
           replace H := Option.bind_eq_some_iff.mp H
           obtain ⟨t460, A700, H⟩ := H
           replace H : (some t460) = some r := H
           have A70 := Aside0.mk A700
           clear A700
           obtain rfl := Option.some.inj H
           go_wp2_with (first | ((with_reducible refine gate_callee (f := 28) rfl ?_); refine goesL_ (some 90) rfl rfl Try.func28 (by kernel_rfl) rfl #[.slice A0 l0.length c0, .int .u64 a1] rfl (by (try simp only [List.map_toArray, List.map_cons, List.map_nil]); first | done | rfl | (simp only [List.length_drop, List.length_take]; rfl)) ?_; (with_reducible refine (reject_Rejects.calls k3 _ _ l0 a1 false _ ?side1 ?side2 A61.out).mono ?_); (case side1 => exact cd_ (Kd.C_below HR0.out HB.out)); (case side2 => exact HC0.out); rintro e w71 ⟨rfl, hb⟩; refine ⟨_, rfl, ?_⟩; replace HO_7 := Aside0.mk (Kd.S_below (by (with_reducible repeat (first | apply Kd.S_alloc | apply Kd.S_drewN | apply Kd.S_drew)); exact HO_7.out) hb); replace HB := Aside0.mk (below_step (bl_ HB.out) hb); (try clear hb)) | (go_at_call 25; (with_reducible refine (watersmeetlaw07_awake.calls k3  t460 _ A70.out).mono ?_); rintro e w72 ⟨rfl, hb⟩; replace HO_7 := Aside0.mk (Kd.S_below (by (with_reducible repeat (first | apply Kd.S_alloc | apply Kd.S_drewN | apply Kd.S_drew)); exact HO_7.out) hb); replace HB := Aside0.mk (below_step (bl_ HB.out) hb); (try clear hb)))
           go_ret
           exact ⟨by first | rfl | (simp [errW_none, errW_some] <;> rfl) | (simp [*, errW_none, errW_some] <;> rfl), by repeat (first | (with_reducible first | exact HB.out | apply below_alloc | apply pw_below_drewN | apply below_drew1) | exact HB.out)⟩


open Go.Proofs.Ytigkkfhpnfjmhaa.Opens in
def watersmeetlaw07_RejectMeans.Pure : Prop := ∀ (x0 : List (S46)) (x1 : Int) (x2 : List (List (S42))), (SliceB 128 b46) x0 → (fun x => (Lit.int .u64 x).wf = true) x1 → (SliceB 24 (SliceB 16 b42)) x2 → ∃ k, watersmeetlaw07_RejectMeans.f k x0 x1 x2 = some true

end Go.Proofs.Ytigkkfhpnfjmhaa.PRejM
