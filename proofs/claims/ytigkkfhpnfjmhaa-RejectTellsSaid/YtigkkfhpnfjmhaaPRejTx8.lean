/- Laid by a program of this session over the printer of the kit: contracts of functions of the given program, and rows of laws. Lean checks it. -/
import Derived.Test.YtigkkfhpnfjmhaaPRejTx0
import Derived.Test.YtigkkfhpnfjmhaaPRejTx1
import Derived.Test.YtigkkfhpnfjmhaaPRejTx2
import Derived.Test.YtigkkfhpnfjmhaaPRejTx4
import Derived.Test.YtigkkfhpnfjmhaaPRejTx5
import Derived.Test.YtigkkfhpnfjmhaaPRejTx7
namespace Go.Proofs.Ytigkkfhpnfjmhaa.PRejT
open Go.RowKit Go.Proofs.YtigkkfhpnfjmhaaW.PrintWords Go.Proofs.YtigkkfhpnfjmhaaW.PrintLast Go.Proofs.YtigkkfhpnfjmhaaW.PrintMore
attribute [local go_sem] max2_int min2_int max_two min_two max_three min_three max_four min_four   -- for this text's walks alone
set_option linter.unusedVariables false
set_option linter.unusedSimpArgs false

attribute [local go_sem high] eqA39
/-! ### watersmeetref07_Rejects: function 29 -/
def watersmeetref07_Rejects.f (k : Nat) (l0 : List (S46)) (a1 : Int) : Option (Bool) := (watersmeetref07_many.f k l0 a1 2 2).bind fun t462 => (some (!t462))
theorem watersmeetref07_Rejects.mono : ∀ a0 a1 k, LeO (watersmeetref07_Rejects.f k a0 a1) (watersmeetref07_Rejects.f (k + 1) a0 a1) := by
  intro a0 a1 k
  unfold watersmeetref07_Rejects.f
  repeat' first
      | (with_reducible exact watersmeetref07_many.mono _ _ _ _ _)
      | (with_reducible exact LeO.refl _)
      | (with_reducible exact LeO.none _)
      | (with_reducible refine LeO.ite ?_ ?_)
      | (with_reducible refine LeO.bind ?_ (fun _ => ?_))
      | exact watersmeetref07_many.mono _ _ _ _ _
      | exact LeO.none _
      | refine LeO.ite ?_ ?_
      | refine LeO.bind ?_ (fun _ => ?_)
set_option maxHeartbeats 8000000 in
set_option maxRecDepth 100000 in
theorem watersmeetref07_Rejects.calls (k : Nat) (A0 : Option Addr) (c0 : Nat) (l0 : List (S46)) (a1 : Int) (r : Bool) (w : World) (hr0 : Kd.C k46 w A0 l0.length l0) (hc0 : l0.length ≤ c0) (h : watersmeetref07_Rejects.f k l0 a1 = some r) :
    Calls Try.prog 29 #[.slice A0 l0.length c0, .int .u64 a1] w fun e w' => e = .returned (.bool r) ∧ Below w.heap.size w w' := by
  have HR0 := Aside0.mk hr0
  have HC0 := Aside0.mk hc0
  clear hr0 hc0
  have HB := Aside0.mk (Below.refl w.heap.size w)
  have H : ((watersmeetref07_many.f k l0 a1 2 2).bind fun t462 => (some (!t462))) = some r := h
  clear h
  replace H := Option.bind_eq_some_iff.mp H
  obtain ⟨t462, A30, H⟩ := H
  replace H : (some (!t462)) = some r := H
  have A3 := Aside0.mk A30
  clear A30
  obtain rfl := Option.some.inj H
  go_enter Try.func29, Try.ntmps29
  go_wp2_with (first | ((with_reducible refine gate_callee (f := 65) rfl ?_); refine goesL_ (some 7) rfl rfl Try.func65 (by kernel_rfl) rfl #[.slice A0 l0.length c0, .int .u64 a1, .int .i64 2, .int .i64 2] rfl (by (try simp only [List.map_toArray, List.map_cons, List.map_nil]); first | done | rfl | (simp only [List.length_drop, List.length_take]; rfl)) ?_; (with_reducible refine (watersmeetref07_many.calls k _ _ l0 a1 2 2 t462 _ ?side1 ?side2 A3.out).mono ?_); (case side1 => repeat (first | exact HR0.out | (with_reducible refine Kd.C_alloc ?_ _) | (with_reducible refine Kd.C_drewN ?_ _) | (with_reducible refine Kd.C_drew ?_))); (case side2 => exact HC0.out); rintro e w4 ⟨rfl, hb⟩; refine ⟨_, rfl, ?_⟩; have n0_ := Aside0.mk (below_step (by repeat (first | (with_reducible first | exact HB.out | apply below_alloc | apply pw_below_drewN | apply below_drew1) | exact HB.out)) hb); clear HB; have HB := n0_; clear n0_; (try clear hb); (try clear hb2); (try clear hk); (try clear hi)))
  go_ret
  exact ⟨by first | rfl | (simp [errW_none, errW_some] <;> rfl) | (simp [*, errW_none, errW_some] <;> rfl), by repeat (first | (with_reducible first | exact HB.out | apply below_alloc | apply pw_below_drewN | apply below_drew1) | exact HB.out)⟩

/-! ### watersmeetlaw07_RejectTells: function 6 -/
def watersmeetlaw07_RejectTells.l0 : Nat → List (S46) → Int → Int → Option (Bool)
 | 0, _, _, _ => none
 | k + 1, x0, x1, x5 => if x5 < (x0.length : Int) then (if 0 ≤ x5 then ((reject_May.f k ((rd_T46 x0 x5).f0) ((rd_T46 x0 x5).f1) ((rd_T46 x0 x5).f2) ((rd_T46 x0 x5).f3.f0) ((rd_T46 x0 x5).f3.f1) ((rd_T46 x0 x5).f3.f2) ((rd_T46 x0 x5).f3.f3.f0) ((rd_T46 x0 x5).f3.f3.f1) ((rd_T46 x0 x5).f4.f0) ((rd_T46 x0 x5).f4.f1) ((rd_T46 x0 x5).f4.f2) ((rd_T46 x0 x5).f4.f3.f0) ((rd_T46 x0 x5).f4.f3.f1) ((rd_T46 x0 x5).f5) x1).bind fun bt469 => ((watersmeetref07_Is.f k ((rd_T46 x0 x5).f0) ((rd_T46 x0 x5).f1) ((rd_T46 x0 x5).f2) ((rd_T46 x0 x5).f3.f0) ((rd_T46 x0 x5).f3.f1) ((rd_T46 x0 x5).f3.f2) ((rd_T46 x0 x5).f3.f3.f0) ((rd_T46 x0 x5).f3.f3.f1) ((rd_T46 x0 x5).f4.f0) ((rd_T46 x0 x5).f4.f1) ((rd_T46 x0 x5).f4.f2) ((rd_T46 x0 x5).f4.f3.f0) ((rd_T46 x0 x5).f4.f3.f1) ((rd_T46 x0 x5).f5) x1 0).bind fun t474 => ((watersmeetref07_Is.f k ((rd_T46 x0 x5).f0) ((rd_T46 x0 x5).f1) ((rd_T46 x0 x5).f2) ((rd_T46 x0 x5).f3.f0) ((rd_T46 x0 x5).f3.f1) ((rd_T46 x0 x5).f3.f2) ((rd_T46 x0 x5).f3.f3.f0) ((rd_T46 x0 x5).f3.f3.f1) ((rd_T46 x0 x5).f4.f0) ((rd_T46 x0 x5).f4.f1) ((rd_T46 x0 x5).f4.f2) ((rd_T46 x0 x5).f4.f3.f0) ((rd_T46 x0 x5).f4.f3.f1) ((rd_T46 x0 x5).f5) x1 1).bind fun t476 => ((watersmeetref07_Is.f k ((rd_T46 x0 x5).f0) ((rd_T46 x0 x5).f1) ((rd_T46 x0 x5).f2) ((rd_T46 x0 x5).f3.f0) ((rd_T46 x0 x5).f3.f1) ((rd_T46 x0 x5).f3.f2) ((rd_T46 x0 x5).f3.f3.f0) ((rd_T46 x0 x5).f3.f3.f1) ((rd_T46 x0 x5).f4.f0) ((rd_T46 x0 x5).f4.f1) ((rd_T46 x0 x5).f4.f2) ((rd_T46 x0 x5).f4.f3.f0) ((rd_T46 x0 x5).f4.f3.f1) ((rd_T46 x0 x5).f5) x1 2).bind fun t478 => (if (!(bt469.1 == t474) || (!(bt469.2.1 == t476) || (!(bt469.2.2 == t478)))) = true then (none) else (watersmeetlaw07_RejectTells.l0 k x0 x1 (wrap64 (x5 + 1)))))))) else (none)) else ((reject_Rejects.f k x0 x1).bind fun t465 => ((watersmeetref07_Rejects.f k x0 x1).bind fun t466 => (if (t465 == t466) = true then ((watersmeetlaw07_awake.f k).bind fun t467 => (some t467)) else (none))))
def watersmeetlaw07_RejectTells.f (k : Nat) (l0 : List (S46)) (a1 : Int) : Option (Bool) := (watersmeetlaw07_few.f k l0).bind fun t463 => (if t463 = true then (watersmeetlaw07_RejectTells.l0 k l0 a1 0) else ((watersmeetlaw07_awake.f k).bind fun t464 => (some t464)))
theorem watersmeetlaw07_RejectTells.mono_l : ∀ k, (∀ y0 y1 y2, LeO (watersmeetlaw07_RejectTells.l0 k y0 y1 y2) (watersmeetlaw07_RejectTells.l0 (k + 1) y0 y1 y2))
 | 0 => fun _ _ _ r h => by simp [watersmeetlaw07_RejectTells.l0] at h
 | k + 1 => by
  have ih0 := watersmeetlaw07_RejectTells.mono_l k
  ·intro y0 y1 y2
   unfold watersmeetlaw07_RejectTells.l0
   repeat' first
   | (with_reducible exact ih0 _ _ _)
   | (with_reducible exact reject_May.mono _ _ _ _ _ _ _ _ _ _ _ _ _ _ _ _)
   | (with_reducible exact reject_Rejects.mono _ _ _)
   | (with_reducible exact watersmeetlaw07_awake.mono _)
   | (with_reducible exact watersmeetlaw07_few.mono _ _)
   | (with_reducible exact watersmeetref07_Is.mono _ _ _ _ _ _ _ _ _ _ _ _ _ _ _ _ _)
   | (with_reducible exact watersmeetref07_Rejects.mono _ _ _)
   | (with_reducible exact LeO.refl _)
   | (with_reducible exact LeO.none _)
   | (with_reducible refine LeO.ite ?_ ?_)
   | (with_reducible refine LeO.bind ?_ (fun _ => ?_))
   | exact ih0 _ _ _
   | exact reject_May.mono _ _ _ _ _ _ _ _ _ _ _ _ _ _ _ _
   | exact reject_Rejects.mono _ _ _
   | exact watersmeetlaw07_awake.mono _
   | exact watersmeetlaw07_few.mono _ _
   | exact watersmeetref07_Is.mono _ _ _ _ _ _ _ _ _ _ _ _ _ _ _ _ _
   | exact watersmeetref07_Rejects.mono _ _ _
   | exact LeO.none _
   | refine LeO.ite ?_ ?_
   | refine LeO.bind ?_ (fun _ => ?_)
theorem watersmeetlaw07_RejectTells.mono : ∀ a0 a1 k, LeO (watersmeetlaw07_RejectTells.f k a0 a1) (watersmeetlaw07_RejectTells.f (k + 1) a0 a1) := by
 intro a0 a1 k
 have ih0 := watersmeetlaw07_RejectTells.mono_l k
 unfold watersmeetlaw07_RejectTells.f
 repeat' first
   | (with_reducible exact ih0 _ _ _)
   | (with_reducible exact reject_May.mono _ _ _ _ _ _ _ _ _ _ _ _ _ _ _ _)
   | (with_reducible exact reject_Rejects.mono _ _ _)
   | (with_reducible exact watersmeetlaw07_awake.mono _)
   | (with_reducible exact watersmeetlaw07_few.mono _ _)
   | (with_reducible exact watersmeetref07_Is.mono _ _ _ _ _ _ _ _ _ _ _ _ _ _ _ _ _)
   | (with_reducible exact watersmeetref07_Rejects.mono _ _ _)
   | (with_reducible exact LeO.refl _)
   | (with_reducible exact LeO.none _)
   | (with_reducible refine LeO.ite ?_ ?_)
   | (with_reducible refine LeO.bind ?_ (fun _ => ?_))
   | exact ih0 _ _ _
   | exact reject_May.mono _ _ _ _ _ _ _ _ _ _ _ _ _ _ _ _
   | exact reject_Rejects.mono _ _ _
   | exact watersmeetlaw07_awake.mono _
   | exact watersmeetlaw07_few.mono _ _
   | exact watersmeetref07_Is.mono _ _ _ _ _ _ _ _ _ _ _ _ _ _ _ _ _
   | exact watersmeetref07_Rejects.mono _ _ _
   | exact LeO.none _
   | refine LeO.ite ?_ ?_
   | refine LeO.bind ?_ (fun _ => ?_)
def watersmeetlaw07_RejectTells.T7 : Bool × List (List Nat × List Nat) := (true, [([], []), ([], []), ([], []), ([1, 2], [1, 2]), ([3], [3]), ([], []), ([4, 5], [4, 5]), ([], []), ([], []), ([7, 8], [7, 8]), ([9], [9]), ([], []), ([10, 11, 6], [10, 11]), ([], []), ([], []), ([13, 14], [13, 14]), ([15], [15]), ([], []), ([16, 17, 12], [16, 17]), ([6, 12, 18], [6, 12, 18]), ([0, 19], [0, 19])])
def watersmeetlaw07_RejectTells.B7 : List Nat := [0, 0, 0, 6, 14, 0, 62, 0, 0, 384, 896, 0, 4094, 0, 0, 24576, 57344, 0, 262142, 524286, 1048575]
theorem watersmeetlaw07_RejectTells.tab7 : rtab .any (opsOf Try.f6 7) = watersmeetlaw07_RejectTells.T7 := by kernel_rfl
theorem watersmeetlaw07_RejectTells.bits7 : waitsOk watersmeetlaw07_RejectTells.T7.2 watersmeetlaw07_RejectTells.B7 = true := by kernel_rfl
set_option maxHeartbeats 8000000 in
set_option maxRecDepth 100000 in
theorem watersmeetlaw07_RejectTells.calls (k : Nat) (A0 : Option Addr) (c0 : Nat) (l0 : List (S46)) (a1 : Int) (r : Bool) (w : World) (hr0 : Kd.C k46 w A0 l0.length l0) (hc0 : l0.length ≤ c0) (h : watersmeetlaw07_RejectTells.f k l0 a1 = some r) :
  Calls Try.prog 6 #[.slice A0 l0.length c0, .int .u64 a1] w fun e w' => e = .returned (.bool r) ∧ Below w.heap.size w w' := by
 have hu46 := Try.underlying46
 have hu39 := Try.underlying39
 have HR0 := Aside0.mk hr0
 have HC0 := Aside0.mk hc0
 clear hr0 hc0
 have HB := Aside0.mk (Below.refl w.heap.size w)
 have H : ((watersmeetlaw07_few.f k l0).bind fun t463 => (if t463 = true then (watersmeetlaw07_RejectTells.l0 k l0 a1 0) else ((watersmeetlaw07_awake.f k).bind fun t464 => (some t464)))) = some r := h
 clear h
 replace H := Option.bind_eq_some_iff.mp H
 obtain ⟨t463, A30, H⟩ := H
 replace H : (if t463 = true then (watersmeetlaw07_RejectTells.l0 k l0 a1 0) else ((watersmeetlaw07_awake.f k).bind fun t464 => (some t464))) = some r := H
 have A3 := Aside0.mk A30
 clear A30
 by_cases c4 : t463 = true
 ·subst c4
  have H1 : (watersmeetlaw07_RejectTells.l0 k l0 a1 0) = some r := by rw [if_pos rfl] at H; exact H
  clear H
  have H := H1
  clear H1
  have H' := Aside0.mk H
  clear H
  go_enter Try.func6, Try.ntmps6
  go_wp2_with (first | ((with_reducible refine gate_callee (f := 24) rfl ?_); refine goesL_ (some 8) rfl rfl Try.func24 (by kernel_rfl) rfl #[.slice A0 l0.length c0] rfl (by (try simp only [List.map_toArray, List.map_cons, List.map_nil]); first | done | rfl | (simp only [List.length_drop, List.length_take]; rfl)) ?_; (with_reducible refine (watersmeetlaw07_few.calls k _ _ l0 true _ ?side1 ?side2 A3.out).mono ?_); (case side1 => repeat (first | exact HR0.out | (with_reducible refine Kd.C_alloc ?_ _) | (with_reducible refine Kd.C_drewN ?_ _) | (with_reducible refine Kd.C_drew ?_))); (case side2 => exact HC0.out); rintro e w5 ⟨rfl, hb⟩; refine ⟨_, rfl, ?_⟩; have n0_ := Aside0.mk (below_step (by repeat (first | (with_reducible first | exact HB.out | apply below_alloc | apply pw_below_drewN | apply below_drew1) | exact HB.out)) hb); clear HB; have HB := n0_; clear n0_; (try clear hb); (try clear hb2); (try clear hk); (try clear hi)))
  go_loopg [5] k (fun kq v5 w' => ∃ (x5_1 : Int), v5 = .int .i64 x5_1 ∧ Aside0 (watersmeetlaw07_RejectTells.l0 kq l0 a1 x5_1 = some r) ∧ Aside0 (kq ≤ k) ∧ Aside0 (Below w.heap.size w w'))
  case atStart => exact ⟨(0), (by first | rfl | (simp; done) | (simp [*]; done) | (simp; decide)), H', ⟨Nat.le_refl _⟩, ⟨by repeat (first | (with_reducible first | exact HB.out | apply below_alloc | apply pw_below_drewN | apply below_drew1) | exact HB.out)⟩⟩
  case round =>
   clear H'
   try clear c2
   try clear p2
   try clear c4
   obtain ⟨x5_1, rfl, HA, HK1, HB⟩ := hrel
   cases gk with
   | zero => exact absurd HA.out (by simp [watersmeetlaw07_RejectTells.l0])
   | succ k1 =>
    have H := HA.out
    clear HA
    simp only [watersmeetlaw07_RejectTells.l0] at H
    by_cases c6 : x5_1 < (l0.length : Int)
    ·rw [if_pos c6] at H
     have c6b0 : decide (x5_1 < (l0.length : Int)) = true := decide_eq_true c6
     clear c6
     by_cases c7 : 0 ≤ x5_1
     ·rw [if_pos c7] at H
      have c7b0 : decide (0 ≤ x5_1) = true := decide_eq_true c7
      clear c7
      replace H := Option.bind_eq_some_iff.mp H
      obtain ⟨⟨t469, t470, t471⟩, A80, H⟩ := H
      replace H : ((watersmeetref07_Is.f k1 ((rd_T46 l0 x5_1).f0) ((rd_T46 l0 x5_1).f1) ((rd_T46 l0 x5_1).f2) ((rd_T46 l0 x5_1).f3.f0) ((rd_T46 l0 x5_1).f3.f1) ((rd_T46 l0 x5_1).f3.f2) ((rd_T46 l0 x5_1).f3.f3.f0) ((rd_T46 l0 x5_1).f3.f3.f1) ((rd_T46 l0 x5_1).f4.f0) ((rd_T46 l0 x5_1).f4.f1) ((rd_T46 l0 x5_1).f4.f2) ((rd_T46 l0 x5_1).f4.f3.f0) ((rd_T46 l0 x5_1).f4.f3.f1) ((rd_T46 l0 x5_1).f5) a1 0).bind fun t474 => ((watersmeetref07_Is.f k1 ((rd_T46 l0 x5_1).f0) ((rd_T46 l0 x5_1).f1) ((rd_T46 l0 x5_1).f2) ((rd_T46 l0 x5_1).f3.f0) ((rd_T46 l0 x5_1).f3.f1) ((rd_T46 l0 x5_1).f3.f2) ((rd_T46 l0 x5_1).f3.f3.f0) ((rd_T46 l0 x5_1).f3.f3.f1) ((rd_T46 l0 x5_1).f4.f0) ((rd_T46 l0 x5_1).f4.f1) ((rd_T46 l0 x5_1).f4.f2) ((rd_T46 l0 x5_1).f4.f3.f0) ((rd_T46 l0 x5_1).f4.f3.f1) ((rd_T46 l0 x5_1).f5) a1 1).bind fun t476 => ((watersmeetref07_Is.f k1 ((rd_T46 l0 x5_1).f0) ((rd_T46 l0 x5_1).f1) ((rd_T46 l0 x5_1).f2) ((rd_T46 l0 x5_1).f3.f0) ((rd_T46 l0 x5_1).f3.f1) ((rd_T46 l0 x5_1).f3.f2) ((rd_T46 l0 x5_1).f3.f3.f0) ((rd_T46 l0 x5_1).f3.f3.f1) ((rd_T46 l0 x5_1).f4.f0) ((rd_T46 l0 x5_1).f4.f1) ((rd_T46 l0 x5_1).f4.f2) ((rd_T46 l0 x5_1).f4.f3.f0) ((rd_T46 l0 x5_1).f4.f3.f1) ((rd_T46 l0 x5_1).f5) a1 2).bind fun t478 => (if (!(t469 == t474) || (!(t470 == t476) || (!(t471 == t478)))) = true then (none) else (watersmeetlaw07_RejectTells.l0 k1 l0 a1 (wrap64 (x5_1 + 1))))))) = some r := H
      have A8 := Aside0.mk A80
      clear A80
      replace H := Option.bind_eq_some_iff.mp H
      obtain ⟨t474, A90, H⟩ := H
      replace H : ((watersmeetref07_Is.f k1 ((rd_T46 l0 x5_1).f0) ((rd_T46 l0 x5_1).f1) ((rd_T46 l0 x5_1).f2) ((rd_T46 l0 x5_1).f3.f0) ((rd_T46 l0 x5_1).f3.f1) ((rd_T46 l0 x5_1).f3.f2) ((rd_T46 l0 x5_1).f3.f3.f0) ((rd_T46 l0 x5_1).f3.f3.f1) ((rd_T46 l0 x5_1).f4.f0) ((rd_T46 l0 x5_1).f4.f1) ((rd_T46 l0 x5_1).f4.f2) ((rd_T46 l0 x5_1).f4.f3.f0) ((rd_T46 l0 x5_1).f4.f3.f1) ((rd_T46 l0 x5_1).f5) a1 1).bind fun t476 => ((watersmeetref07_Is.f k1 ((rd_T46 l0 x5_1).f0) ((rd_T46 l0 x5_1).f1) ((rd_T46 l0 x5_1).f2) ((rd_T46 l0 x5_1).f3.f0) ((rd_T46 l0 x5_1).f3.f1) ((rd_T46 l0 x5_1).f3.f2) ((rd_T46 l0 x5_1).f3.f3.f0) ((rd_T46 l0 x5_1).f3.f3.f1) ((rd_T46 l0 x5_1).f4.f0) ((rd_T46 l0 x5_1).f4.f1) ((rd_T46 l0 x5_1).f4.f2) ((rd_T46 l0 x5_1).f4.f3.f0) ((rd_T46 l0 x5_1).f4.f3.f1) ((rd_T46 l0 x5_1).f5) a1 2).bind fun t478 => (if (!(t469 == t474) || (!(t470 == t476) || (!(t471 == t478)))) = true then (none) else (watersmeetlaw07_RejectTells.l0 k1 l0 a1 (wrap64 (x5_1 + 1)))))) = some r := H
      have A9 := Aside0.mk A90
      clear A90
      replace H := Option.bind_eq_some_iff.mp H
      obtain ⟨t476, A100, H⟩ := H
      replace H : ((watersmeetref07_Is.f k1 ((rd_T46 l0 x5_1).f0) ((rd_T46 l0 x5_1).f1) ((rd_T46 l0 x5_1).f2) ((rd_T46 l0 x5_1).f3.f0) ((rd_T46 l0 x5_1).f3.f1) ((rd_T46 l0 x5_1).f3.f2) ((rd_T46 l0 x5_1).f3.f3.f0) ((rd_T46 l0 x5_1).f3.f3.f1) ((rd_T46 l0 x5_1).f4.f0) ((rd_T46 l0 x5_1).f4.f1) ((rd_T46 l0 x5_1).f4.f2) ((rd_T46 l0 x5_1).f4.f3.f0) ((rd_T46 l0 x5_1).f4.f3.f1) ((rd_T46 l0 x5_1).f5) a1 2).bind fun t478 => (if (!(t469 == t474) || (!(t470 == t476) || (!(t471 == t478)))) = true then (none) else (watersmeetlaw07_RejectTells.l0 k1 l0 a1 (wrap64 (x5_1 + 1))))) = some r := H
      have A10 := Aside0.mk A100
      clear A100
      replace H := Option.bind_eq_some_iff.mp H
      obtain ⟨t478, A110, H⟩ := H
      replace H : (if (!(t469 == t474) || (!(t470 == t476) || (!(t471 == t478)))) = true then (none) else (watersmeetlaw07_RejectTells.l0 k1 l0 a1 (wrap64 (x5_1 + 1)))) = some r := H
      have A11 := Aside0.mk A110
      clear A110
      by_cases c12 : (!(t469 == t474) || (!(t470 == t476) || (!(t471 == t478)))) = true
      ·rw [if_pos c12] at H
       exact absurd H (by simp)
      ·rw [if_neg c12] at H
       have c12b0 : (!(t469 == t474) || (!(t470 == t476) || (!(t471 == t478)))) = false := by simpa using c12
       clear c12
       have H' := Aside0.mk H
       clear H
       have p468 : 0 ≤ (x5_1 : Int) := of_decide_eq_true (by first | (with_reducible assumption) | assumption)
       have q468 : x5_1 < (l0.length : Int) := of_decide_eq_true (by first | (with_reducible assumption) | assumption)
       obtain ⟨ad468, A468_13, c468_13, e468, hx468_0, hx468_1, hx468_2, hx468_3, hx468_4, hx468_5, hx468_6, hx468_7, hx468_8, hx468_9, hx468_10, hx468_11, hx468_12, hx468_13, hl468_13, hi468_13⟩ := at_T46 HR0.out x5_1 p468 q468
       cases e468
       replace hx468_0 := (HB.out.cell (World.block_lt_of_cell? w _ hx468_0)).trans hx468_0
       replace hx468_1 := (HB.out.cell (World.block_lt_of_cell? w _ hx468_1)).trans hx468_1
       replace hx468_2 := (HB.out.cell (World.block_lt_of_cell? w _ hx468_2)).trans hx468_2
       replace hx468_3 := (HB.out.cell (World.block_lt_of_cell? w _ hx468_3)).trans hx468_3
       replace hx468_4 := (HB.out.cell (World.block_lt_of_cell? w _ hx468_4)).trans hx468_4
       replace hx468_5 := (HB.out.cell (World.block_lt_of_cell? w _ hx468_5)).trans hx468_5
       replace hx468_6 := (HB.out.cell (World.block_lt_of_cell? w _ hx468_6)).trans hx468_6
       replace hx468_7 := (HB.out.cell (World.block_lt_of_cell? w _ hx468_7)).trans hx468_7
       replace hx468_8 := (HB.out.cell (World.block_lt_of_cell? w _ hx468_8)).trans hx468_8
       replace hx468_9 := (HB.out.cell (World.block_lt_of_cell? w _ hx468_9)).trans hx468_9
       replace hx468_10 := (HB.out.cell (World.block_lt_of_cell? w _ hx468_10)).trans hx468_10
       replace hx468_11 := (HB.out.cell (World.block_lt_of_cell? w _ hx468_11)).trans hx468_11
       replace hx468_12 := (HB.out.cell (World.block_lt_of_cell? w _ hx468_12)).trans hx468_12
       replace hx468_13 := (HB.out.cell (World.block_lt_of_cell? w _ hx468_13)).trans hx468_13
       have HR468_13 := Aside0.mk hi468_13
       have HC468_13 := Aside0.mk hl468_13
       clear hi468_13 hl468_13
       replace p468 := eq_true p468
       replace q468 := eq_true q468
       try go_wp2_with (first | ((with_reducible refine gate_callee (f := 26) rfl ?_); refine goesL_ (some 22) rfl rfl Try.func26 (by kernel_rfl) rfl #[.agg #[.int .i64 ((rd_T46 l0 x5_1).f0), .int .i64 ((rd_T46 l0 x5_1).f1), .int .i64 ((rd_T46 l0 x5_1).f2), .int .i64 ((rd_T46 l0 x5_1).f3.f0), .int .i64 ((rd_T46 l0 x5_1).f3.f1), .int .i64 ((rd_T46 l0 x5_1).f3.f2), .bool ((rd_T46 l0 x5_1).f3.f3.f0), .int .i64 ((rd_T46 l0 x5_1).f3.f3.f1), .int .i64 ((rd_T46 l0 x5_1).f4.f0), .int .i64 ((rd_T46 l0 x5_1).f4.f1), .int .i64 ((rd_T46 l0 x5_1).f4.f2), .bool ((rd_T46 l0 x5_1).f4.f3.f0), .int .i64 ((rd_T46 l0 x5_1).f4.f3.f1), .slice A468_13 ((rd_T46 l0 x5_1).f5).length c468_13], .int .u64 a1] rfl (by (try simp only [List.map_toArray, List.map_cons, List.map_nil]); first | done | rfl | (simp only [List.length_drop, List.length_take]; rfl)) ?_; (with_reducible refine (reject_May.calls k1 ((rd_T46 l0 x5_1).f0) ((rd_T46 l0 x5_1).f1) ((rd_T46 l0 x5_1).f2) ((rd_T46 l0 x5_1).f3.f0) ((rd_T46 l0 x5_1).f3.f1) ((rd_T46 l0 x5_1).f3.f2) ((rd_T46 l0 x5_1).f3.f3.f0) ((rd_T46 l0 x5_1).f3.f3.f1) ((rd_T46 l0 x5_1).f4.f0) ((rd_T46 l0 x5_1).f4.f1) ((rd_T46 l0 x5_1).f4.f2) ((rd_T46 l0 x5_1).f4.f3.f0) ((rd_T46 l0 x5_1).f4.f3.f1) _ _ ((rd_T46 l0 x5_1).f5) a1 t469 t470 t471 _ ?side1 ?side2 A8.out).mono ?_); (case side1 => repeat (first | exact (Kd.C_below HR468_13.out HB.out) | (with_reducible refine Kd.C_alloc ?_ _) | (with_reducible refine Kd.C_drewN ?_ _) | (with_reducible refine Kd.C_drew ?_))); (case side2 => exact HC468_13.out); rintro e w13 ⟨rfl, hb⟩; refine ⟨_, rfl, ?_⟩; have n0_ := Aside0.mk (below_step (by repeat (first | (with_reducible first | exact HB.out | apply below_alloc | apply pw_below_drewN | apply below_drew1) | exact HB.out)) hb); clear HB; have HB := n0_; clear n0_; (try clear hb); (try clear hb2); (try clear hk); (try clear hi)) | ((with_reducible refine gate_dst (N := 6) rfl ?_); refine box_event ?hg (N := 6) ?hd (cs := #[.bool false, .bool false, .bool false]) (t := 39) ?hr ?_; (case hd => rfl); (case hg => rfl); (case hr => first | (go_simp; done) | (go_simp; rfl)); intro gb472 hg w14 hbox hb; have n0_ := Aside0.mk (below_step (by repeat (first | (with_reducible first | exact HB.out | apply below_alloc | apply pw_below_drewN | apply below_drew1) | exact HB.out)) hb); have n1_ := Aside0.mk (hbox); have n2_ := Aside0.mk ((by rw [hg]; exact (below_size (by repeat (first | (with_reducible first | exact HB.out | apply below_alloc | apply pw_below_drewN | apply below_drew1) | exact HB.out))) : w.heap.size ≤ gb472)); have n3_ := n2_; clear HB; have HB := n0_; have BK472 := n1_; have GW472 := n2_; have GE472 := n3_; clear n0_ n1_ n2_ n3_; clear hb hbox hg; have hcz15 := blk_cell BK472.out; have hfz15_0 := blk_frozen BK472.out 0; have hfz15_1 := blk_frozen BK472.out 1; have hfz15_2 := blk_frozen BK472.out 2))
       have n0_ : Aside0 ((((w14.setCell ⟨gb472, 0, none⟩ (.bool t469)).setCell ⟨gb472, 1, none⟩ (.bool t470)).setCell ⟨gb472, 2, none⟩ (.bool t471)).heap[gb472]? = some (.cells #[.bool t469, .bool t470, .bool t471] 39 (0, 0))) := ⟨by (with_reducible repeat (first | refine blk_drewN ?_ _ | refine blk_drew ?_ | refine blk_alloc ?_ _)); refine blk_put (cs := #[.bool t469, .bool t470, .bool false]) ?_ 2 _ rfl; (with_reducible repeat (first | refine blk_drewN ?_ _ | refine blk_drew ?_ | refine blk_alloc ?_ _)); refine blk_put (cs := #[.bool t469, .bool false, .bool false]) ?_ 1 _ rfl; (with_reducible repeat (first | refine blk_drewN ?_ _ | refine blk_drew ?_ | refine blk_alloc ?_ _)); refine blk_put (cs := #[.bool false, .bool false, .bool false]) ?_ 0 _ rfl; (with_reducible repeat (first | refine blk_drewN ?_ _ | refine blk_drew ?_ | refine blk_alloc ?_ _)); exact BK472.out⟩
       have n1_ : Aside0 (Below w.heap.size w (((w14.setCell ⟨gb472, 0, none⟩ (.bool t469)).setCell ⟨gb472, 1, none⟩ (.bool t470)).setCell ⟨gb472, 2, none⟩ (.bool t471))) := ⟨by repeat (first | (with_reducible first | exact HB.out | apply below_alloc | apply pw_below_drewN | apply below_drew1 | refine below_set ?_ GE472.out) | exact HB.out)⟩
       (try clear BK472)
       (try clear HB)
       generalize (((w14.setCell ⟨gb472, 0, none⟩ (.bool t469)).setCell ⟨gb472, 1, none⟩ (.bool t470)).setCell ⟨gb472, 2, none⟩ (.bool t471)) = w16 at n0_ n1_ ⊢
       have BK472 := n0_
       have HB := n1_
       clear n0_ n1_
       have n0_ := Aside0.mk (blk_drew BK472.out)
       have n1_ := Aside0.mk (below_drew1 HB.out)
       clear BK472
       clear HB
       have BK472 := n0_
       have HB := n1_
       clear n0_ n1_
       have p473 : 0 ≤ (x5_1 : Int) := of_decide_eq_true (by first | (with_reducible assumption) | assumption)
       have q473 : x5_1 < (l0.length : Int) := of_decide_eq_true (by first | (with_reducible assumption) | assumption)
       obtain ⟨ad473, A473_13, c473_13, e473, hx473_0, hx473_1, hx473_2, hx473_3, hx473_4, hx473_5, hx473_6, hx473_7, hx473_8, hx473_9, hx473_10, hx473_11, hx473_12, hx473_13, hl473_13, hi473_13⟩ := at_T46 HR0.out x5_1 p473 q473
       have hw473_13 := hx473_13
       have hw473_12 := hx473_12
       have hw473_11 := hx473_11
       have hw473_10 := hx473_10
       have hw473_9 := hx473_9
       have hw473_8 := hx473_8
       have hw473_7 := hx473_7
       have hw473_6 := hx473_6
       have hw473_5 := hx473_5
       have hw473_4 := hx473_4
       have hw473_3 := hx473_3
       have hw473_2 := hx473_2
       have hw473_1 := hx473_1
       have hw473_0 := hx473_0
       obtain rfl : ad468 = ad473 := (by injection e473)
       replace hx473_0 := (HB.out.cell (World.block_lt_of_cell? w _ hx473_0)).trans hx473_0
       replace hx473_1 := (HB.out.cell (World.block_lt_of_cell? w _ hx473_1)).trans hx473_1
       replace hx473_2 := (HB.out.cell (World.block_lt_of_cell? w _ hx473_2)).trans hx473_2
       replace hx473_3 := (HB.out.cell (World.block_lt_of_cell? w _ hx473_3)).trans hx473_3
       replace hx473_4 := (HB.out.cell (World.block_lt_of_cell? w _ hx473_4)).trans hx473_4
       replace hx473_5 := (HB.out.cell (World.block_lt_of_cell? w _ hx473_5)).trans hx473_5
       replace hx473_6 := (HB.out.cell (World.block_lt_of_cell? w _ hx473_6)).trans hx473_6
       replace hx473_7 := (HB.out.cell (World.block_lt_of_cell? w _ hx473_7)).trans hx473_7
       replace hx473_8 := (HB.out.cell (World.block_lt_of_cell? w _ hx473_8)).trans hx473_8
       replace hx473_9 := (HB.out.cell (World.block_lt_of_cell? w _ hx473_9)).trans hx473_9
       replace hx473_10 := (HB.out.cell (World.block_lt_of_cell? w _ hx473_10)).trans hx473_10
       replace hx473_11 := (HB.out.cell (World.block_lt_of_cell? w _ hx473_11)).trans hx473_11
       replace hx473_12 := (HB.out.cell (World.block_lt_of_cell? w _ hx473_12)).trans hx473_12
       replace hx473_13 := (HB.out.cell (World.block_lt_of_cell? w _ hx473_13)).trans hx473_13
       have HR473_13 := Aside0.mk hi473_13
       have HC473_13 := Aside0.mk hl473_13
       clear hi473_13 hl473_13
       replace p473 := eq_true p473
       replace q473 := eq_true q473
       have p475 : 0 ≤ (x5_1 : Int) := of_decide_eq_true (by first | (with_reducible assumption) | assumption)
       have q475 : x5_1 < (l0.length : Int) := of_decide_eq_true (by first | (with_reducible assumption) | assumption)
       obtain ⟨ad475, A475_13, c475_13, e475, hx475_0, hx475_1, hx475_2, hx475_3, hx475_4, hx475_5, hx475_6, hx475_7, hx475_8, hx475_9, hx475_10, hx475_11, hx475_12, hx475_13, hl475_13, hi475_13⟩ := at_T46 HR0.out x5_1 p475 q475
       have hw475_13 := hx475_13
       have hw475_12 := hx475_12
       have hw475_11 := hx475_11
       have hw475_10 := hx475_10
       have hw475_9 := hx475_9
       have hw475_8 := hx475_8
       have hw475_7 := hx475_7
       have hw475_6 := hx475_6
       have hw475_5 := hx475_5
       have hw475_4 := hx475_4
       have hw475_3 := hx475_3
       have hw475_2 := hx475_2
       have hw475_1 := hx475_1
       have hw475_0 := hx475_0
       obtain rfl : ad468 = ad475 := (by injection e475)
       replace hx475_0 := (HB.out.cell (World.block_lt_of_cell? w _ hx475_0)).trans hx475_0
       replace hx475_1 := (HB.out.cell (World.block_lt_of_cell? w _ hx475_1)).trans hx475_1
       replace hx475_2 := (HB.out.cell (World.block_lt_of_cell? w _ hx475_2)).trans hx475_2
       replace hx475_3 := (HB.out.cell (World.block_lt_of_cell? w _ hx475_3)).trans hx475_3
       replace hx475_4 := (HB.out.cell (World.block_lt_of_cell? w _ hx475_4)).trans hx475_4
       replace hx475_5 := (HB.out.cell (World.block_lt_of_cell? w _ hx475_5)).trans hx475_5
       replace hx475_6 := (HB.out.cell (World.block_lt_of_cell? w _ hx475_6)).trans hx475_6
       replace hx475_7 := (HB.out.cell (World.block_lt_of_cell? w _ hx475_7)).trans hx475_7
       replace hx475_8 := (HB.out.cell (World.block_lt_of_cell? w _ hx475_8)).trans hx475_8
       replace hx475_9 := (HB.out.cell (World.block_lt_of_cell? w _ hx475_9)).trans hx475_9
       replace hx475_10 := (HB.out.cell (World.block_lt_of_cell? w _ hx475_10)).trans hx475_10
       replace hx475_11 := (HB.out.cell (World.block_lt_of_cell? w _ hx475_11)).trans hx475_11
       replace hx475_12 := (HB.out.cell (World.block_lt_of_cell? w _ hx475_12)).trans hx475_12
       replace hx475_13 := (HB.out.cell (World.block_lt_of_cell? w _ hx475_13)).trans hx475_13
       have HR475_13 := Aside0.mk hi475_13
       have HC475_13 := Aside0.mk hl475_13
       clear hi475_13 hl475_13
       replace p475 := eq_true p475
       replace q475 := eq_true q475
       have ea_ := Option.some.inj (hx473_13.symm.trans hx475_13)
       injection ea_ with ea_ en_ ec_
       subst ea_
       subst ec_
       clear en_
       have p477 : 0 ≤ (x5_1 : Int) := of_decide_eq_true (by first | (with_reducible assumption) | assumption)
       have q477 : x5_1 < (l0.length : Int) := of_decide_eq_true (by first | (with_reducible assumption) | assumption)
       obtain ⟨ad477, A477_13, c477_13, e477, hx477_0, hx477_1, hx477_2, hx477_3, hx477_4, hx477_5, hx477_6, hx477_7, hx477_8, hx477_9, hx477_10, hx477_11, hx477_12, hx477_13, hl477_13, hi477_13⟩ := at_T46 HR0.out x5_1 p477 q477
       have hw477_13 := hx477_13
       have hw477_12 := hx477_12
       have hw477_11 := hx477_11
       have hw477_10 := hx477_10
       have hw477_9 := hx477_9
       have hw477_8 := hx477_8
       have hw477_7 := hx477_7
       have hw477_6 := hx477_6
       have hw477_5 := hx477_5
       have hw477_4 := hx477_4
       have hw477_3 := hx477_3
       have hw477_2 := hx477_2
       have hw477_1 := hx477_1
       have hw477_0 := hx477_0
       obtain rfl : ad468 = ad477 := (by injection e477)
       replace hx477_0 := (HB.out.cell (World.block_lt_of_cell? w _ hx477_0)).trans hx477_0
       replace hx477_1 := (HB.out.cell (World.block_lt_of_cell? w _ hx477_1)).trans hx477_1
       replace hx477_2 := (HB.out.cell (World.block_lt_of_cell? w _ hx477_2)).trans hx477_2
       replace hx477_3 := (HB.out.cell (World.block_lt_of_cell? w _ hx477_3)).trans hx477_3
       replace hx477_4 := (HB.out.cell (World.block_lt_of_cell? w _ hx477_4)).trans hx477_4
       replace hx477_5 := (HB.out.cell (World.block_lt_of_cell? w _ hx477_5)).trans hx477_5
       replace hx477_6 := (HB.out.cell (World.block_lt_of_cell? w _ hx477_6)).trans hx477_6
       replace hx477_7 := (HB.out.cell (World.block_lt_of_cell? w _ hx477_7)).trans hx477_7
       replace hx477_8 := (HB.out.cell (World.block_lt_of_cell? w _ hx477_8)).trans hx477_8
       replace hx477_9 := (HB.out.cell (World.block_lt_of_cell? w _ hx477_9)).trans hx477_9
       replace hx477_10 := (HB.out.cell (World.block_lt_of_cell? w _ hx477_10)).trans hx477_10
       replace hx477_11 := (HB.out.cell (World.block_lt_of_cell? w _ hx477_11)).trans hx477_11
       replace hx477_12 := (HB.out.cell (World.block_lt_of_cell? w _ hx477_12)).trans hx477_12
       replace hx477_13 := (HB.out.cell (World.block_lt_of_cell? w _ hx477_13)).trans hx477_13
       have HR477_13 := Aside0.mk hi477_13
       have HC477_13 := Aside0.mk hl477_13
       clear hi477_13 hl477_13
       replace p477 := eq_true p477
       replace q477 := eq_true q477
       have ea_ := Option.some.inj (hx473_13.symm.trans hx477_13)
       injection ea_ with ea_ en_ ec_
       subst ea_
       subst ec_
       clear en_
       refine start_ (n := 21) (S := fun w' => w'.cell? ⟨gb472, 0, none⟩ = some (.bool t469) ∧ w'.cell? ⟨gb472, 1, none⟩ = some (.bool t470) ∧ w'.cell? ⟨gb472, 2, none⟩ = some (.bool t471) ∧ w'.cell? (ad468.add ((x5_1).toNat * 14)) = some (.int .i64 ((rd_T46 l0 x5_1).f0)) ∧ w'.cell? ⟨(ad468.add ((x5_1).toNat * 14)).block, (ad468.add ((x5_1).toNat * 14)).off + 1, none⟩ = some (.int .i64 ((rd_T46 l0 x5_1).f1)) ∧ w'.cell? ⟨(ad468.add ((x5_1).toNat * 14)).block, (ad468.add ((x5_1).toNat * 14)).off + 2, none⟩ = some (.int .i64 ((rd_T46 l0 x5_1).f2)) ∧ w'.cell? ⟨(ad468.add ((x5_1).toNat * 14)).block, (ad468.add ((x5_1).toNat * 14)).off + 3, none⟩ = some (.int .i64 ((rd_T46 l0 x5_1).f3.f0)) ∧ w'.cell? ⟨(ad468.add ((x5_1).toNat * 14)).block, (ad468.add ((x5_1).toNat * 14)).off + 4, none⟩ = some (.int .i64 ((rd_T46 l0 x5_1).f3.f1)) ∧ w'.cell? ⟨(ad468.add ((x5_1).toNat * 14)).block, (ad468.add ((x5_1).toNat * 14)).off + 5, none⟩ = some (.int .i64 ((rd_T46 l0 x5_1).f3.f2)) ∧ w'.cell? ⟨(ad468.add ((x5_1).toNat * 14)).block, (ad468.add ((x5_1).toNat * 14)).off + 6, none⟩ = some (.bool ((rd_T46 l0 x5_1).f3.f3.f0)) ∧ w'.cell? ⟨(ad468.add ((x5_1).toNat * 14)).block, (ad468.add ((x5_1).toNat * 14)).off + 7, none⟩ = some (.int .i64 ((rd_T46 l0 x5_1).f3.f3.f1)) ∧ w'.cell? ⟨(ad468.add ((x5_1).toNat * 14)).block, (ad468.add ((x5_1).toNat * 14)).off + 8, none⟩ = some (.int .i64 ((rd_T46 l0 x5_1).f4.f0)) ∧ w'.cell? ⟨(ad468.add ((x5_1).toNat * 14)).block, (ad468.add ((x5_1).toNat * 14)).off + 9, none⟩ = some (.int .i64 ((rd_T46 l0 x5_1).f4.f1)) ∧ w'.cell? ⟨(ad468.add ((x5_1).toNat * 14)).block, (ad468.add ((x5_1).toNat * 14)).off + 10, none⟩ = some (.int .i64 ((rd_T46 l0 x5_1).f4.f2)) ∧ w'.cell? ⟨(ad468.add ((x5_1).toNat * 14)).block, (ad468.add ((x5_1).toNat * 14)).off + 11, none⟩ = some (.bool ((rd_T46 l0 x5_1).f4.f3.f0)) ∧ w'.cell? ⟨(ad468.add ((x5_1).toNat * 14)).block, (ad468.add ((x5_1).toNat * 14)).off + 12, none⟩ = some (.int .i64 ((rd_T46 l0 x5_1).f4.f3.f1)) ∧ w'.cell? ⟨(ad468.add ((x5_1).toNat * 14)).block, (ad468.add ((x5_1).toNat * 14)).off + 13, none⟩ = some (.slice A473_13 ((rd_T46 l0 x5_1).f5).length c473_13) ∧ w'.cell? (ad468.add ((x5_1).toNat * 14)) = some (.int .i64 ((rd_T46 l0 x5_1).f0)) ∧ w'.cell? ⟨(ad468.add ((x5_1).toNat * 14)).block, (ad468.add ((x5_1).toNat * 14)).off + 1, none⟩ = some (.int .i64 ((rd_T46 l0 x5_1).f1)) ∧ w'.cell? ⟨(ad468.add ((x5_1).toNat * 14)).block, (ad468.add ((x5_1).toNat * 14)).off + 2, none⟩ = some (.int .i64 ((rd_T46 l0 x5_1).f2)) ∧ w'.cell? ⟨(ad468.add ((x5_1).toNat * 14)).block, (ad468.add ((x5_1).toNat * 14)).off + 3, none⟩ = some (.int .i64 ((rd_T46 l0 x5_1).f3.f0)) ∧ w'.cell? ⟨(ad468.add ((x5_1).toNat * 14)).block, (ad468.add ((x5_1).toNat * 14)).off + 4, none⟩ = some (.int .i64 ((rd_T46 l0 x5_1).f3.f1)) ∧ w'.cell? ⟨(ad468.add ((x5_1).toNat * 14)).block, (ad468.add ((x5_1).toNat * 14)).off + 5, none⟩ = some (.int .i64 ((rd_T46 l0 x5_1).f3.f2)) ∧ w'.cell? ⟨(ad468.add ((x5_1).toNat * 14)).block, (ad468.add ((x5_1).toNat * 14)).off + 6, none⟩ = some (.bool ((rd_T46 l0 x5_1).f3.f3.f0)) ∧ w'.cell? ⟨(ad468.add ((x5_1).toNat * 14)).block, (ad468.add ((x5_1).toNat * 14)).off + 7, none⟩ = some (.int .i64 ((rd_T46 l0 x5_1).f3.f3.f1)) ∧ w'.cell? ⟨(ad468.add ((x5_1).toNat * 14)).block, (ad468.add ((x5_1).toNat * 14)).off + 8, none⟩ = some (.int .i64 ((rd_T46 l0 x5_1).f4.f0)) ∧ w'.cell? ⟨(ad468.add ((x5_1).toNat * 14)).block, (ad468.add ((x5_1).toNat * 14)).off + 9, none⟩ = some (.int .i64 ((rd_T46 l0 x5_1).f4.f1)) ∧ w'.cell? ⟨(ad468.add ((x5_1).toNat * 14)).block, (ad468.add ((x5_1).toNat * 14)).off + 10, none⟩ = some (.int .i64 ((rd_T46 l0 x5_1).f4.f2)) ∧ w'.cell? ⟨(ad468.add ((x5_1).toNat * 14)).block, (ad468.add ((x5_1).toNat * 14)).off + 11, none⟩ = some (.bool ((rd_T46 l0 x5_1).f4.f3.f0)) ∧ w'.cell? ⟨(ad468.add ((x5_1).toNat * 14)).block, (ad468.add ((x5_1).toNat * 14)).off + 12, none⟩ = some (.int .i64 ((rd_T46 l0 x5_1).f4.f3.f1)) ∧ w'.cell? ⟨(ad468.add ((x5_1).toNat * 14)).block, (ad468.add ((x5_1).toNat * 14)).off + 13, none⟩ = some (.slice A473_13 ((rd_T46 l0 x5_1).f5).length c473_13) ∧ w'.cell? (ad468.add ((x5_1).toNat * 14)) = some (.int .i64 ((rd_T46 l0 x5_1).f0)) ∧ w'.cell? ⟨(ad468.add ((x5_1).toNat * 14)).block, (ad468.add ((x5_1).toNat * 14)).off + 1, none⟩ = some (.int .i64 ((rd_T46 l0 x5_1).f1)) ∧ w'.cell? ⟨(ad468.add ((x5_1).toNat * 14)).block, (ad468.add ((x5_1).toNat * 14)).off + 2, none⟩ = some (.int .i64 ((rd_T46 l0 x5_1).f2)) ∧ w'.cell? ⟨(ad468.add ((x5_1).toNat * 14)).block, (ad468.add ((x5_1).toNat * 14)).off + 3, none⟩ = some (.int .i64 ((rd_T46 l0 x5_1).f3.f0)) ∧ w'.cell? ⟨(ad468.add ((x5_1).toNat * 14)).block, (ad468.add ((x5_1).toNat * 14)).off + 4, none⟩ = some (.int .i64 ((rd_T46 l0 x5_1).f3.f1)) ∧ w'.cell? ⟨(ad468.add ((x5_1).toNat * 14)).block, (ad468.add ((x5_1).toNat * 14)).off + 5, none⟩ = some (.int .i64 ((rd_T46 l0 x5_1).f3.f2)) ∧ w'.cell? ⟨(ad468.add ((x5_1).toNat * 14)).block, (ad468.add ((x5_1).toNat * 14)).off + 6, none⟩ = some (.bool ((rd_T46 l0 x5_1).f3.f3.f0)) ∧ w'.cell? ⟨(ad468.add ((x5_1).toNat * 14)).block, (ad468.add ((x5_1).toNat * 14)).off + 7, none⟩ = some (.int .i64 ((rd_T46 l0 x5_1).f3.f3.f1)) ∧ w'.cell? ⟨(ad468.add ((x5_1).toNat * 14)).block, (ad468.add ((x5_1).toNat * 14)).off + 8, none⟩ = some (.int .i64 ((rd_T46 l0 x5_1).f4.f0)) ∧ w'.cell? ⟨(ad468.add ((x5_1).toNat * 14)).block, (ad468.add ((x5_1).toNat * 14)).off + 9, none⟩ = some (.int .i64 ((rd_T46 l0 x5_1).f4.f1)) ∧ w'.cell? ⟨(ad468.add ((x5_1).toNat * 14)).block, (ad468.add ((x5_1).toNat * 14)).off + 10, none⟩ = some (.int .i64 ((rd_T46 l0 x5_1).f4.f2)) ∧ w'.cell? ⟨(ad468.add ((x5_1).toNat * 14)).block, (ad468.add ((x5_1).toNat * 14)).off + 11, none⟩ = some (.bool ((rd_T46 l0 x5_1).f4.f3.f0)) ∧ w'.cell? ⟨(ad468.add ((x5_1).toNat * 14)).block, (ad468.add ((x5_1).toNat * 14)).off + 12, none⟩ = some (.int .i64 ((rd_T46 l0 x5_1).f4.f3.f1)) ∧ w'.cell? ⟨(ad468.add ((x5_1).toNat * 14)).block, (ad468.add ((x5_1).toNat * 14)).off + 13, none⟩ = some (.slice A473_13 ((rd_T46 l0 x5_1).f5).length c473_13)) (ds := []) #[false, false, false, false, false, false, false, false, false, false, false, false, false, false, false, false, false, false, false, false, false] (by kernel_rfl) rfl rfl ⟨(blk_cell BK472.out 0).trans rfl, (blk_cell BK472.out 1).trans rfl, (blk_cell BK472.out 2).trans rfl, ((HB.out.cell (World.block_lt_of_cell? w _ hw473_0)).trans hw473_0), ((HB.out.cell (World.block_lt_of_cell? w _ hw473_1)).trans hw473_1), ((HB.out.cell (World.block_lt_of_cell? w _ hw473_2)).trans hw473_2), ((HB.out.cell (World.block_lt_of_cell? w _ hw473_3)).trans hw473_3), ((HB.out.cell (World.block_lt_of_cell? w _ hw473_4)).trans hw473_4), ((HB.out.cell (World.block_lt_of_cell? w _ hw473_5)).trans hw473_5), ((HB.out.cell (World.block_lt_of_cell? w _ hw473_6)).trans hw473_6), ((HB.out.cell (World.block_lt_of_cell? w _ hw473_7)).trans hw473_7), ((HB.out.cell (World.block_lt_of_cell? w _ hw473_8)).trans hw473_8), ((HB.out.cell (World.block_lt_of_cell? w _ hw473_9)).trans hw473_9), ((HB.out.cell (World.block_lt_of_cell? w _ hw473_10)).trans hw473_10), ((HB.out.cell (World.block_lt_of_cell? w _ hw473_11)).trans hw473_11), ((HB.out.cell (World.block_lt_of_cell? w _ hw473_12)).trans hw473_12), ((HB.out.cell (World.block_lt_of_cell? w _ hw473_13)).trans hw473_13), ((HB.out.cell (World.block_lt_of_cell? w _ hw475_0)).trans hw475_0), ((HB.out.cell (World.block_lt_of_cell? w _ hw475_1)).trans hw475_1), ((HB.out.cell (World.block_lt_of_cell? w _ hw475_2)).trans hw475_2), ((HB.out.cell (World.block_lt_of_cell? w _ hw475_3)).trans hw475_3), ((HB.out.cell (World.block_lt_of_cell? w _ hw475_4)).trans hw475_4), ((HB.out.cell (World.block_lt_of_cell? w _ hw475_5)).trans hw475_5), ((HB.out.cell (World.block_lt_of_cell? w _ hw475_6)).trans hw475_6), ((HB.out.cell (World.block_lt_of_cell? w _ hw475_7)).trans hw475_7), ((HB.out.cell (World.block_lt_of_cell? w _ hw475_8)).trans hw475_8), ((HB.out.cell (World.block_lt_of_cell? w _ hw475_9)).trans hw475_9), ((HB.out.cell (World.block_lt_of_cell? w _ hw475_10)).trans hw475_10), ((HB.out.cell (World.block_lt_of_cell? w _ hw475_11)).trans hw475_11), ((HB.out.cell (World.block_lt_of_cell? w _ hw475_12)).trans hw475_12), ((HB.out.cell (World.block_lt_of_cell? w _ hw475_13)).trans hw475_13), ((HB.out.cell (World.block_lt_of_cell? w _ hw477_0)).trans hw477_0), ((HB.out.cell (World.block_lt_of_cell? w _ hw477_1)).trans hw477_1), ((HB.out.cell (World.block_lt_of_cell? w _ hw477_2)).trans hw477_2), ((HB.out.cell (World.block_lt_of_cell? w _ hw477_3)).trans hw477_3), ((HB.out.cell (World.block_lt_of_cell? w _ hw477_4)).trans hw477_4), ((HB.out.cell (World.block_lt_of_cell? w _ hw477_5)).trans hw477_5), ((HB.out.cell (World.block_lt_of_cell? w _ hw477_6)).trans hw477_6), ((HB.out.cell (World.block_lt_of_cell? w _ hw477_7)).trans hw477_7), ((HB.out.cell (World.block_lt_of_cell? w _ hw477_8)).trans hw477_8), ((HB.out.cell (World.block_lt_of_cell? w _ hw477_9)).trans hw477_9), ((HB.out.cell (World.block_lt_of_cell? w _ hw477_10)).trans hw477_10), ((HB.out.cell (World.block_lt_of_cell? w _ hw477_11)).trans hw477_11), ((HB.out.cell (World.block_lt_of_cell? w _ hw477_12)).trans hw477_12), ((HB.out.cell (World.block_lt_of_cell? w _ hw477_13)).trans hw477_13)⟩ (fun hHeld => ?_); refine with_tabW watersmeetlaw07_RejectTells.tab7 watersmeetlaw07_RejectTells.bits7 (fun HT_ HW_ => ?_)
       generalize w16.drew = w17 at BK472 HB HR473_13 HR475_13 HR477_13 hx473_0 hx473_1 hx473_10 hx473_11 hx473_12 hx473_13 hx473_2 hx473_3 hx473_4 hx473_5 hx473_6 hx473_7 hx473_8 hx473_9 hx475_0 hx475_1 hx475_10 hx475_11 hx475_12 hx475_13 hx475_2 hx475_3 hx475_4 hx475_5 hx475_6 hx475_7 hx475_8 hx475_9 hx477_0 hx477_1 hx477_10 hx477_11 hx477_12 hx477_13 hx477_2 hx477_3 hx477_4 hx477_5 hx477_6 hx477_7 hx477_8 hx477_9 hHeld ⊢
       refine pure_ (i := 1) (N := some 24) (v := ?_) (a' := ?_) #[false, true, false, false, false, false, false, false, false, false, false, false, false, false, false, false, false, false, false, false, false] rfl rfl (any_of HT_.out (by kernel_rfl)) (fun _ _ _ h => h) (Or.inl ⟨by rfl, ?_⟩) ?_ ?_
       rotate_left
       ·intro w'
        go_simp
        with_reducible rfl
       rotate_left
       ·simp only [Act.put, List.setIfInBounds_toArray, List.set_cons_zero, List.set_cons_succ, i64_w, i32_w]
        rfl
       refine pure_ (i := 2) (N := some 25) (v := ?_) (a' := ?_) #[false, true, true, false, false, false, false, false, false, false, false, false, false, false, false, false, false, false, false, false, false] rfl rfl (any_of HT_.out (by kernel_rfl)) (fun _ _ _ h => h) (Or.inl ⟨by rfl, ?_⟩) ?_ ?_
       rotate_left
       ·intro w'
        go_simp
        with_reducible rfl
       rotate_left
       ·simp only [Act.put, List.setIfInBounds_toArray, List.set_cons_zero, List.set_cons_succ, i64_w, i32_w]
        rfl
       refine pure_ (i := 3) (N := some 26) (v := ?_) (a' := ?_) #[false, true, true, true, false, false, false, false, false, false, false, false, false, false, false, false, false, false, false, false, false] rfl rfl (any_of HT_.out (by kernel_rfl)) (fun _ _ _ h => h) (Or.inl ⟨by rfl, ?_⟩) ?_ ?_
       rotate_left
       ·intro w'
        go_simp
        with_reducible rfl
       rotate_left
       ·simp only [Act.put, List.setIfInBounds_toArray, List.set_cons_zero, List.set_cons_succ, i64_w, i32_w]
        rfl
       refine pure_ (i := 5) (N := some 28) (v := ?_) (a' := ?_) #[false, true, true, true, false, true, false, false, false, false, false, false, false, false, false, false, false, false, false, false, false] rfl rfl (any_of HT_.out (by kernel_rfl)) (fun _ _ _ h => h) (Or.inl ⟨by rfl, ?_⟩) ?_ ?_
       rotate_left
       ·intro w'
        go_simp
        with_reducible rfl
       rotate_left
       ·simp only [Act.put, List.setIfInBounds_toArray, List.set_cons_zero, List.set_cons_succ, i64_w, i32_w]
        rfl
       refine pure_ (i := 7) (N := some 30) (v := ?_) (a' := ?_) #[false, true, true, true, false, true, false, true, false, false, false, false, false, false, false, false, false, false, false, false, false] rfl rfl (any_of HT_.out (by kernel_rfl)) (fun _ _ _ h => h) (Or.inl ⟨by rfl, ?_⟩) ?_ ?_
       rotate_left
       ·intro w'
        go_simp
        with_reducible rfl
       rotate_left
       ·simp only [Act.put, List.setIfInBounds_toArray, List.set_cons_zero, List.set_cons_succ, i64_w, i32_w]
        rfl
       refine pure_ (i := 8) (N := some 31) (v := ?_) (a' := ?_) #[false, true, true, true, false, true, false, true, true, false, false, false, false, false, false, false, false, false, false, false, false] rfl rfl (any_of HT_.out (by kernel_rfl)) (fun _ _ _ h => h) (Or.inl ⟨by rfl, ?_⟩) ?_ ?_
       rotate_left
       ·intro w'
        go_simp
        with_reducible rfl
       rotate_left
       ·simp only [Act.put, List.setIfInBounds_toArray, List.set_cons_zero, List.set_cons_succ, i64_w, i32_w]
        rfl
       refine pure_ (i := 9) (N := some 32) (v := ?_) (a' := ?_) #[false, true, true, true, false, true, false, true, true, true, false, false, false, false, false, false, false, false, false, false, false] rfl rfl (any_of HT_.out (by kernel_rfl)) (fun _ _ _ h => h) (Or.inl ⟨by rfl, ?_⟩) ?_ ?_
       rotate_left
       ·intro w'
        go_simp
        with_reducible rfl
       rotate_left
       ·simp only [Act.put, List.setIfInBounds_toArray, List.set_cons_zero, List.set_cons_succ, i64_w, i32_w]
        rfl
       refine pure_ (i := 11) (N := some 34) (v := ?_) (a' := ?_) #[false, true, true, true, false, true, false, true, true, true, false, true, false, false, false, false, false, false, false, false, false] rfl rfl (any_of HT_.out (by kernel_rfl)) (fun _ _ _ h => h) (Or.inl ⟨by rfl, ?_⟩) ?_ ?_
       rotate_left
       ·intro w'
        go_simp
        with_reducible rfl
       rotate_left
       ·simp only [Act.put, List.setIfInBounds_toArray, List.set_cons_zero, List.set_cons_succ, i64_w, i32_w]
        rfl
       refine pure_ (i := 13) (N := some 36) (v := ?_) (a' := ?_) #[false, true, true, true, false, true, false, true, true, true, false, true, false, true, false, false, false, false, false, false, false] rfl rfl (any_of HT_.out (by kernel_rfl)) (fun _ _ _ h => h) (Or.inl ⟨by rfl, ?_⟩) ?_ ?_
       rotate_left
       ·intro w'
        go_simp
        with_reducible rfl
       rotate_left
       ·simp only [Act.put, List.setIfInBounds_toArray, List.set_cons_zero, List.set_cons_succ, i64_w, i32_w]
        rfl
       refine pure_ (i := 14) (N := some 37) (v := ?_) (a' := ?_) #[false, true, true, true, false, true, false, true, true, true, false, true, false, true, true, false, false, false, false, false, false] rfl rfl (any_of HT_.out (by kernel_rfl)) (fun _ _ _ h => h) (Or.inl ⟨by rfl, ?_⟩) ?_ ?_
       rotate_left
       ·intro w'
        go_simp
        with_reducible rfl
       rotate_left
       ·simp only [Act.put, List.setIfInBounds_toArray, List.set_cons_zero, List.set_cons_succ, i64_w, i32_w]
        rfl
       refine pure_ (i := 15) (N := some 38) (v := ?_) (a' := ?_) #[false, true, true, true, false, true, false, true, true, true, false, true, false, true, true, true, false, false, false, false, false] rfl rfl (any_of HT_.out (by kernel_rfl)) (fun _ _ _ h => h) (Or.inl ⟨by rfl, ?_⟩) ?_ ?_
       rotate_left
       ·intro w'
        go_simp
        with_reducible rfl
       rotate_left
       ·simp only [Act.put, List.setIfInBounds_toArray, List.set_cons_zero, List.set_cons_succ, i64_w, i32_w]
        rfl
       refine pure_ (i := 17) (N := some 40) (v := ?_) (a' := ?_) #[false, true, true, true, false, true, false, true, true, true, false, true, false, true, true, true, false, true, false, false, false] rfl rfl (any_of HT_.out (by kernel_rfl)) (fun _ _ _ h => h) (Or.inl ⟨by rfl, ?_⟩) ?_ ?_
       rotate_left
       ·intro w'
        go_simp
        with_reducible rfl
       rotate_left
       ·simp only [Act.put, List.setIfInBounds_toArray, List.set_cons_zero, List.set_cons_succ, i64_w, i32_w]
        rfl
       refine take_ (i := 0) (N := some 23) (v := ?_) (a' := ?_) #[true, true, true, true, false, true, false, true, true, true, false, true, false, true, true, true, false, true, false, false, false] rfl rfl (take_ofW HT_.out HW_.out (by kernel_rfl)) (fun _ _ _ h => h) (Or.inl ⟨by rfl, ?_⟩) hHeld ?_ ?_
       rotate_left
       ·rintro w' ⟨s0, s1, s2, s3, s4, s5, s6, s7, s8, s9, s10, s11, s12, s13, s14, s15, s16, s17, s18, s19, s20, s21, s22, s23, s24, s25, s26, s27, s28, s29, s30, s31, s32, s33, s34, s35, s36, s37, s38, s39, s40, s41, s42, s43, s44⟩
        go_simp
        with_reducible rfl
       rotate_left
       ·simp only [Act.put, List.setIfInBounds_toArray, List.set_cons_zero, List.set_cons_succ, i64_w, i32_w]
        rfl
       refine take_ (i := 4) (N := some 27) (v := ?_) (a' := ?_) #[true, true, true, true, true, true, false, true, true, true, false, true, false, true, true, true, false, true, false, false, false] rfl rfl (take_ofW HT_.out HW_.out (by kernel_rfl)) (fun _ _ _ h => h) (Or.inl ⟨by rfl, ?_⟩) hHeld ?_ ?_
       rotate_left
       ·rintro w' ⟨s0, s1, s2, s3, s4, s5, s6, s7, s8, s9, s10, s11, s12, s13, s14, s15, s16, s17, s18, s19, s20, s21, s22, s23, s24, s25, s26, s27, s28, s29, s30, s31, s32, s33, s34, s35, s36, s37, s38, s39, s40, s41, s42, s43, s44⟩
        go_simp
        with_reducible rfl
       rotate_left
       ·simp only [Act.put, List.setIfInBounds_toArray, List.set_cons_zero, List.set_cons_succ, i64_w, i32_w]
        rfl
       refine take_ (i := 10) (N := some 33) (v := ?_) (a' := ?_) #[true, true, true, true, true, true, false, true, true, true, true, true, false, true, true, true, false, true, false, false, false] rfl rfl (take_ofW HT_.out HW_.out (by kernel_rfl)) (fun _ _ _ h => h) (Or.inl ⟨by rfl, ?_⟩) hHeld ?_ ?_
       rotate_left
       ·rintro w' ⟨s0, s1, s2, s3, s4, s5, s6, s7, s8, s9, s10, s11, s12, s13, s14, s15, s16, s17, s18, s19, s20, s21, s22, s23, s24, s25, s26, s27, s28, s29, s30, s31, s32, s33, s34, s35, s36, s37, s38, s39, s40, s41, s42, s43, s44⟩
        go_simp
        with_reducible rfl
       rotate_left
       ·simp only [Act.put, List.setIfInBounds_toArray, List.set_cons_zero, List.set_cons_succ, i64_w, i32_w]
        rfl
       refine take_ (i := 16) (N := some 39) (v := ?_) (a' := ?_) #[true, true, true, true, true, true, false, true, true, true, true, true, false, true, true, true, true, true, false, false, false] rfl rfl (take_ofW HT_.out HW_.out (by kernel_rfl)) (fun _ _ _ h => h) (Or.inl ⟨by rfl, ?_⟩) hHeld ?_ ?_
       rotate_left
       ·rintro w' ⟨s0, s1, s2, s3, s4, s5, s6, s7, s8, s9, s10, s11, s12, s13, s14, s15, s16, s17, s18, s19, s20, s21, s22, s23, s24, s25, s26, s27, s28, s29, s30, s31, s32, s33, s34, s35, s36, s37, s38, s39, s40, s41, s42, s43, s44⟩
        go_simp
        with_reducible rfl
       rotate_left
       ·simp only [Act.put, List.setIfInBounds_toArray, List.set_cons_zero, List.set_cons_succ, i64_w, i32_w]
        rfl
       refine one_ (i := 6) (N := some 29) #[true, true, true, true, true, true, true, true, true, true, true, true, false, true, true, true, true, true, false, false, false] rfl rfl (one_of HT_.out (by kernel_rfl)) (by decide) (fun K hK => ?_)
       refine goes_ Try.func27 (by kernel_rfl) rfl #[.agg #[.int .i64 ((rd_T46 l0 x5_1).f0), .int .i64 ((rd_T46 l0 x5_1).f1), .int .i64 ((rd_T46 l0 x5_1).f2), .int .i64 ((rd_T46 l0 x5_1).f3.f0), .int .i64 ((rd_T46 l0 x5_1).f3.f1), .int .i64 ((rd_T46 l0 x5_1).f3.f2), .bool ((rd_T46 l0 x5_1).f3.f3.f0), .int .i64 ((rd_T46 l0 x5_1).f3.f3.f1), .int .i64 ((rd_T46 l0 x5_1).f4.f0), .int .i64 ((rd_T46 l0 x5_1).f4.f1), .int .i64 ((rd_T46 l0 x5_1).f4.f2), .bool ((rd_T46 l0 x5_1).f4.f3.f0), .int .i64 ((rd_T46 l0 x5_1).f4.f3.f1), .slice A473_13 ((rd_T46 l0 x5_1).f5).length c473_13], .int .u64 a1, .int .i64 0] (by rfl) rfl rfl (by (try simp only [List.map_toArray, List.map_cons, List.map_nil]); first | done | rfl | (simp only [List.length_drop, List.length_take]; rfl)) ?_
       with_reducible refine (watersmeetref07_Is.calls k1 ((rd_T46 l0 x5_1).f0) ((rd_T46 l0 x5_1).f1) ((rd_T46 l0 x5_1).f2) ((rd_T46 l0 x5_1).f3.f0) ((rd_T46 l0 x5_1).f3.f1) ((rd_T46 l0 x5_1).f3.f2) ((rd_T46 l0 x5_1).f3.f3.f0) ((rd_T46 l0 x5_1).f3.f3.f1) ((rd_T46 l0 x5_1).f4.f0) ((rd_T46 l0 x5_1).f4.f1) ((rd_T46 l0 x5_1).f4.f2) ((rd_T46 l0 x5_1).f4.f3.f0) ((rd_T46 l0 x5_1).f4.f3.f1) _ _ ((rd_T46 l0 x5_1).f5) a1 0 t474 _ ?side1 ?side2 A9.out).mono ?_
       (case side1 => repeat (first | exact (Kd.C_below HR473_13.out HB.out) | (with_reducible refine Kd.C_alloc ?_ _) | (with_reducible refine Kd.C_drewN ?_ _) | (with_reducible refine Kd.C_drew ?_)))
       (case side2 => exact HC473_13.out)
       rintro e w18 ⟨rfl, hb⟩
       refine ⟨_, rfl, ?_⟩
       have n0_ := Aside0.mk (blk_below (by (with_reducible repeat (first | refine blk_drewN ?_ _ | refine blk_drew ?_ | refine blk_alloc ?_ _)); exact BK472.out) hb)
       have n1_ := Aside0.mk (below_step (by repeat (first | (with_reducible first | exact HB.out | apply below_alloc | apply pw_below_drewN | apply below_drew1 | refine below_set ?_ GE472.out) | exact HB.out)) hb)
       clear BK472
       clear HB
       have BK472 := n0_
       have HB := n1_
       clear n0_ n1_
       (try clear hb)
       (try clear hb2)
       (try clear hk)
       (try clear hi)
       refine hK.out _ _ ⟨(blk_cell BK472.out 0).trans rfl, (blk_cell BK472.out 1).trans rfl, (blk_cell BK472.out 2).trans rfl, ((HB.out.cell (World.block_lt_of_cell? w _ hw473_0)).trans hw473_0), ((HB.out.cell (World.block_lt_of_cell? w _ hw473_1)).trans hw473_1), ((HB.out.cell (World.block_lt_of_cell? w _ hw473_2)).trans hw473_2), ((HB.out.cell (World.block_lt_of_cell? w _ hw473_3)).trans hw473_3), ((HB.out.cell (World.block_lt_of_cell? w _ hw473_4)).trans hw473_4), ((HB.out.cell (World.block_lt_of_cell? w _ hw473_5)).trans hw473_5), ((HB.out.cell (World.block_lt_of_cell? w _ hw473_6)).trans hw473_6), ((HB.out.cell (World.block_lt_of_cell? w _ hw473_7)).trans hw473_7), ((HB.out.cell (World.block_lt_of_cell? w _ hw473_8)).trans hw473_8), ((HB.out.cell (World.block_lt_of_cell? w _ hw473_9)).trans hw473_9), ((HB.out.cell (World.block_lt_of_cell? w _ hw473_10)).trans hw473_10), ((HB.out.cell (World.block_lt_of_cell? w _ hw473_11)).trans hw473_11), ((HB.out.cell (World.block_lt_of_cell? w _ hw473_12)).trans hw473_12), ((HB.out.cell (World.block_lt_of_cell? w _ hw473_13)).trans hw473_13), ((HB.out.cell (World.block_lt_of_cell? w _ hw475_0)).trans hw475_0), ((HB.out.cell (World.block_lt_of_cell? w _ hw475_1)).trans hw475_1), ((HB.out.cell (World.block_lt_of_cell? w _ hw475_2)).trans hw475_2), ((HB.out.cell (World.block_lt_of_cell? w _ hw475_3)).trans hw475_3), ((HB.out.cell (World.block_lt_of_cell? w _ hw475_4)).trans hw475_4), ((HB.out.cell (World.block_lt_of_cell? w _ hw475_5)).trans hw475_5), ((HB.out.cell (World.block_lt_of_cell? w _ hw475_6)).trans hw475_6), ((HB.out.cell (World.block_lt_of_cell? w _ hw475_7)).trans hw475_7), ((HB.out.cell (World.block_lt_of_cell? w _ hw475_8)).trans hw475_8), ((HB.out.cell (World.block_lt_of_cell? w _ hw475_9)).trans hw475_9), ((HB.out.cell (World.block_lt_of_cell? w _ hw475_10)).trans hw475_10), ((HB.out.cell (World.block_lt_of_cell? w _ hw475_11)).trans hw475_11), ((HB.out.cell (World.block_lt_of_cell? w _ hw475_12)).trans hw475_12), ((HB.out.cell (World.block_lt_of_cell? w _ hw475_13)).trans hw475_13), ((HB.out.cell (World.block_lt_of_cell? w _ hw477_0)).trans hw477_0), ((HB.out.cell (World.block_lt_of_cell? w _ hw477_1)).trans hw477_1), ((HB.out.cell (World.block_lt_of_cell? w _ hw477_2)).trans hw477_2), ((HB.out.cell (World.block_lt_of_cell? w _ hw477_3)).trans hw477_3), ((HB.out.cell (World.block_lt_of_cell? w _ hw477_4)).trans hw477_4), ((HB.out.cell (World.block_lt_of_cell? w _ hw477_5)).trans hw477_5), ((HB.out.cell (World.block_lt_of_cell? w _ hw477_6)).trans hw477_6), ((HB.out.cell (World.block_lt_of_cell? w _ hw477_7)).trans hw477_7), ((HB.out.cell (World.block_lt_of_cell? w _ hw477_8)).trans hw477_8), ((HB.out.cell (World.block_lt_of_cell? w _ hw477_9)).trans hw477_9), ((HB.out.cell (World.block_lt_of_cell? w _ hw477_10)).trans hw477_10), ((HB.out.cell (World.block_lt_of_cell? w _ hw477_11)).trans hw477_11), ((HB.out.cell (World.block_lt_of_cell? w _ hw477_12)).trans hw477_12), ((HB.out.cell (World.block_lt_of_cell? w _ hw477_13)).trans hw477_13)⟩ (fun hHeld => ?_)
       clear hK K
       refine norm_ (a' := ?_) ?_ ?_
       rotate_left
       ·show Act.put _ (some 29) _ = _
        simp only [Act.put, List.setIfInBounds_toArray, List.set_cons_zero, List.set_cons_succ, i64_w, i32_w]
        rfl
       refine one_ (i := 12) (N := some 35) #[true, true, true, true, true, true, true, true, true, true, true, true, true, true, true, true, true, true, false, false, false] rfl rfl (one_of HT_.out (by kernel_rfl)) (by decide) (fun K hK => ?_)
       refine goes_ Try.func27 (by kernel_rfl) rfl #[.agg #[.int .i64 ((rd_T46 l0 x5_1).f0), .int .i64 ((rd_T46 l0 x5_1).f1), .int .i64 ((rd_T46 l0 x5_1).f2), .int .i64 ((rd_T46 l0 x5_1).f3.f0), .int .i64 ((rd_T46 l0 x5_1).f3.f1), .int .i64 ((rd_T46 l0 x5_1).f3.f2), .bool ((rd_T46 l0 x5_1).f3.f3.f0), .int .i64 ((rd_T46 l0 x5_1).f3.f3.f1), .int .i64 ((rd_T46 l0 x5_1).f4.f0), .int .i64 ((rd_T46 l0 x5_1).f4.f1), .int .i64 ((rd_T46 l0 x5_1).f4.f2), .bool ((rd_T46 l0 x5_1).f4.f3.f0), .int .i64 ((rd_T46 l0 x5_1).f4.f3.f1), .slice A473_13 ((rd_T46 l0 x5_1).f5).length c473_13], .int .u64 a1, .int .i64 1] (by rfl) rfl rfl (by (try simp only [List.map_toArray, List.map_cons, List.map_nil]); first | done | rfl | (simp only [List.length_drop, List.length_take]; rfl)) ?_
       with_reducible refine (watersmeetref07_Is.calls k1 ((rd_T46 l0 x5_1).f0) ((rd_T46 l0 x5_1).f1) ((rd_T46 l0 x5_1).f2) ((rd_T46 l0 x5_1).f3.f0) ((rd_T46 l0 x5_1).f3.f1) ((rd_T46 l0 x5_1).f3.f2) ((rd_T46 l0 x5_1).f3.f3.f0) ((rd_T46 l0 x5_1).f3.f3.f1) ((rd_T46 l0 x5_1).f4.f0) ((rd_T46 l0 x5_1).f4.f1) ((rd_T46 l0 x5_1).f4.f2) ((rd_T46 l0 x5_1).f4.f3.f0) ((rd_T46 l0 x5_1).f4.f3.f1) _ _ ((rd_T46 l0 x5_1).f5) a1 1 t476 _ ?side1 ?side2 A10.out).mono ?_
       (case side1 => repeat (first | exact (Kd.C_below HR475_13.out HB.out) | (with_reducible refine Kd.C_alloc ?_ _) | (with_reducible refine Kd.C_drewN ?_ _) | (with_reducible refine Kd.C_drew ?_)))
       (case side2 => exact HC475_13.out)
       rintro e w19 ⟨rfl, hb⟩
       refine ⟨_, rfl, ?_⟩
       have n0_ := Aside0.mk (blk_below (by (with_reducible repeat (first | refine blk_drewN ?_ _ | refine blk_drew ?_ | refine blk_alloc ?_ _)); exact BK472.out) hb)
       have n1_ := Aside0.mk (below_step (by repeat (first | (with_reducible first | exact HB.out | apply below_alloc | apply pw_below_drewN | apply below_drew1 | refine below_set ?_ GE472.out) | exact HB.out)) hb)
       clear BK472
       clear HB
       have BK472 := n0_
       have HB := n1_
       clear n0_ n1_
       (try clear hb)
       (try clear hb2)
       (try clear hk)
       (try clear hi)
       refine hK.out _ _ ⟨(blk_cell BK472.out 0).trans rfl, (blk_cell BK472.out 1).trans rfl, (blk_cell BK472.out 2).trans rfl, ((HB.out.cell (World.block_lt_of_cell? w _ hw473_0)).trans hw473_0), ((HB.out.cell (World.block_lt_of_cell? w _ hw473_1)).trans hw473_1), ((HB.out.cell (World.block_lt_of_cell? w _ hw473_2)).trans hw473_2), ((HB.out.cell (World.block_lt_of_cell? w _ hw473_3)).trans hw473_3), ((HB.out.cell (World.block_lt_of_cell? w _ hw473_4)).trans hw473_4), ((HB.out.cell (World.block_lt_of_cell? w _ hw473_5)).trans hw473_5), ((HB.out.cell (World.block_lt_of_cell? w _ hw473_6)).trans hw473_6), ((HB.out.cell (World.block_lt_of_cell? w _ hw473_7)).trans hw473_7), ((HB.out.cell (World.block_lt_of_cell? w _ hw473_8)).trans hw473_8), ((HB.out.cell (World.block_lt_of_cell? w _ hw473_9)).trans hw473_9), ((HB.out.cell (World.block_lt_of_cell? w _ hw473_10)).trans hw473_10), ((HB.out.cell (World.block_lt_of_cell? w _ hw473_11)).trans hw473_11), ((HB.out.cell (World.block_lt_of_cell? w _ hw473_12)).trans hw473_12), ((HB.out.cell (World.block_lt_of_cell? w _ hw473_13)).trans hw473_13), ((HB.out.cell (World.block_lt_of_cell? w _ hw475_0)).trans hw475_0), ((HB.out.cell (World.block_lt_of_cell? w _ hw475_1)).trans hw475_1), ((HB.out.cell (World.block_lt_of_cell? w _ hw475_2)).trans hw475_2), ((HB.out.cell (World.block_lt_of_cell? w _ hw475_3)).trans hw475_3), ((HB.out.cell (World.block_lt_of_cell? w _ hw475_4)).trans hw475_4), ((HB.out.cell (World.block_lt_of_cell? w _ hw475_5)).trans hw475_5), ((HB.out.cell (World.block_lt_of_cell? w _ hw475_6)).trans hw475_6), ((HB.out.cell (World.block_lt_of_cell? w _ hw475_7)).trans hw475_7), ((HB.out.cell (World.block_lt_of_cell? w _ hw475_8)).trans hw475_8), ((HB.out.cell (World.block_lt_of_cell? w _ hw475_9)).trans hw475_9), ((HB.out.cell (World.block_lt_of_cell? w _ hw475_10)).trans hw475_10), ((HB.out.cell (World.block_lt_of_cell? w _ hw475_11)).trans hw475_11), ((HB.out.cell (World.block_lt_of_cell? w _ hw475_12)).trans hw475_12), ((HB.out.cell (World.block_lt_of_cell? w _ hw475_13)).trans hw475_13), ((HB.out.cell (World.block_lt_of_cell? w _ hw477_0)).trans hw477_0), ((HB.out.cell (World.block_lt_of_cell? w _ hw477_1)).trans hw477_1), ((HB.out.cell (World.block_lt_of_cell? w _ hw477_2)).trans hw477_2), ((HB.out.cell (World.block_lt_of_cell? w _ hw477_3)).trans hw477_3), ((HB.out.cell (World.block_lt_of_cell? w _ hw477_4)).trans hw477_4), ((HB.out.cell (World.block_lt_of_cell? w _ hw477_5)).trans hw477_5), ((HB.out.cell (World.block_lt_of_cell? w _ hw477_6)).trans hw477_6), ((HB.out.cell (World.block_lt_of_cell? w _ hw477_7)).trans hw477_7), ((HB.out.cell (World.block_lt_of_cell? w _ hw477_8)).trans hw477_8), ((HB.out.cell (World.block_lt_of_cell? w _ hw477_9)).trans hw477_9), ((HB.out.cell (World.block_lt_of_cell? w _ hw477_10)).trans hw477_10), ((HB.out.cell (World.block_lt_of_cell? w _ hw477_11)).trans hw477_11), ((HB.out.cell (World.block_lt_of_cell? w _ hw477_12)).trans hw477_12), ((HB.out.cell (World.block_lt_of_cell? w _ hw477_13)).trans hw477_13)⟩ (fun hHeld => ?_)
       clear hK K
       refine norm_ (a' := ?_) ?_ ?_
       rotate_left
       ·show Act.put _ (some 35) _ = _
        simp only [Act.put, List.setIfInBounds_toArray, List.set_cons_zero, List.set_cons_succ, i64_w, i32_w]
        rfl
       refine one_ (i := 18) (N := some 41) #[true, true, true, true, true, true, true, true, true, true, true, true, true, true, true, true, true, true, true, false, false] rfl rfl (one_of HT_.out (by kernel_rfl)) (by decide) (fun K hK => ?_)
       refine goes_ Try.func27 (by kernel_rfl) rfl #[.agg #[.int .i64 ((rd_T46 l0 x5_1).f0), .int .i64 ((rd_T46 l0 x5_1).f1), .int .i64 ((rd_T46 l0 x5_1).f2), .int .i64 ((rd_T46 l0 x5_1).f3.f0), .int .i64 ((rd_T46 l0 x5_1).f3.f1), .int .i64 ((rd_T46 l0 x5_1).f3.f2), .bool ((rd_T46 l0 x5_1).f3.f3.f0), .int .i64 ((rd_T46 l0 x5_1).f3.f3.f1), .int .i64 ((rd_T46 l0 x5_1).f4.f0), .int .i64 ((rd_T46 l0 x5_1).f4.f1), .int .i64 ((rd_T46 l0 x5_1).f4.f2), .bool ((rd_T46 l0 x5_1).f4.f3.f0), .int .i64 ((rd_T46 l0 x5_1).f4.f3.f1), .slice A473_13 ((rd_T46 l0 x5_1).f5).length c473_13], .int .u64 a1, .int .i64 2] (by rfl) rfl rfl (by (try simp only [List.map_toArray, List.map_cons, List.map_nil]); first | done | rfl | (simp only [List.length_drop, List.length_take]; rfl)) ?_
       with_reducible refine (watersmeetref07_Is.calls k1 ((rd_T46 l0 x5_1).f0) ((rd_T46 l0 x5_1).f1) ((rd_T46 l0 x5_1).f2) ((rd_T46 l0 x5_1).f3.f0) ((rd_T46 l0 x5_1).f3.f1) ((rd_T46 l0 x5_1).f3.f2) ((rd_T46 l0 x5_1).f3.f3.f0) ((rd_T46 l0 x5_1).f3.f3.f1) ((rd_T46 l0 x5_1).f4.f0) ((rd_T46 l0 x5_1).f4.f1) ((rd_T46 l0 x5_1).f4.f2) ((rd_T46 l0 x5_1).f4.f3.f0) ((rd_T46 l0 x5_1).f4.f3.f1) _ _ ((rd_T46 l0 x5_1).f5) a1 2 t478 _ ?side1 ?side2 A11.out).mono ?_
       (case side1 => repeat (first | exact (Kd.C_below HR477_13.out HB.out) | (with_reducible refine Kd.C_alloc ?_ _) | (with_reducible refine Kd.C_drewN ?_ _) | (with_reducible refine Kd.C_drew ?_)))
       (case side2 => exact HC477_13.out)
       rintro e w20 ⟨rfl, hb⟩
       refine ⟨_, rfl, ?_⟩
       have n0_ := Aside0.mk (blk_below (by (with_reducible repeat (first | refine blk_drewN ?_ _ | refine blk_drew ?_ | refine blk_alloc ?_ _)); exact BK472.out) hb)
       have n1_ := Aside0.mk (below_step (by repeat (first | (with_reducible first | exact HB.out | apply below_alloc | apply pw_below_drewN | apply below_drew1 | refine below_set ?_ GE472.out) | exact HB.out)) hb)
       clear BK472
       clear HB
       have BK472 := n0_
       have HB := n1_
       clear n0_ n1_
       (try clear hb)
       (try clear hb2)
       (try clear hk)
       (try clear hi)
       refine hK.out _ _ ⟨(blk_cell BK472.out 0).trans rfl, (blk_cell BK472.out 1).trans rfl, (blk_cell BK472.out 2).trans rfl, ((HB.out.cell (World.block_lt_of_cell? w _ hw473_0)).trans hw473_0), ((HB.out.cell (World.block_lt_of_cell? w _ hw473_1)).trans hw473_1), ((HB.out.cell (World.block_lt_of_cell? w _ hw473_2)).trans hw473_2), ((HB.out.cell (World.block_lt_of_cell? w _ hw473_3)).trans hw473_3), ((HB.out.cell (World.block_lt_of_cell? w _ hw473_4)).trans hw473_4), ((HB.out.cell (World.block_lt_of_cell? w _ hw473_5)).trans hw473_5), ((HB.out.cell (World.block_lt_of_cell? w _ hw473_6)).trans hw473_6), ((HB.out.cell (World.block_lt_of_cell? w _ hw473_7)).trans hw473_7), ((HB.out.cell (World.block_lt_of_cell? w _ hw473_8)).trans hw473_8), ((HB.out.cell (World.block_lt_of_cell? w _ hw473_9)).trans hw473_9), ((HB.out.cell (World.block_lt_of_cell? w _ hw473_10)).trans hw473_10), ((HB.out.cell (World.block_lt_of_cell? w _ hw473_11)).trans hw473_11), ((HB.out.cell (World.block_lt_of_cell? w _ hw473_12)).trans hw473_12), ((HB.out.cell (World.block_lt_of_cell? w _ hw473_13)).trans hw473_13), ((HB.out.cell (World.block_lt_of_cell? w _ hw475_0)).trans hw475_0), ((HB.out.cell (World.block_lt_of_cell? w _ hw475_1)).trans hw475_1), ((HB.out.cell (World.block_lt_of_cell? w _ hw475_2)).trans hw475_2), ((HB.out.cell (World.block_lt_of_cell? w _ hw475_3)).trans hw475_3), ((HB.out.cell (World.block_lt_of_cell? w _ hw475_4)).trans hw475_4), ((HB.out.cell (World.block_lt_of_cell? w _ hw475_5)).trans hw475_5), ((HB.out.cell (World.block_lt_of_cell? w _ hw475_6)).trans hw475_6), ((HB.out.cell (World.block_lt_of_cell? w _ hw475_7)).trans hw475_7), ((HB.out.cell (World.block_lt_of_cell? w _ hw475_8)).trans hw475_8), ((HB.out.cell (World.block_lt_of_cell? w _ hw475_9)).trans hw475_9), ((HB.out.cell (World.block_lt_of_cell? w _ hw475_10)).trans hw475_10), ((HB.out.cell (World.block_lt_of_cell? w _ hw475_11)).trans hw475_11), ((HB.out.cell (World.block_lt_of_cell? w _ hw475_12)).trans hw475_12), ((HB.out.cell (World.block_lt_of_cell? w _ hw475_13)).trans hw475_13), ((HB.out.cell (World.block_lt_of_cell? w _ hw477_0)).trans hw477_0), ((HB.out.cell (World.block_lt_of_cell? w _ hw477_1)).trans hw477_1), ((HB.out.cell (World.block_lt_of_cell? w _ hw477_2)).trans hw477_2), ((HB.out.cell (World.block_lt_of_cell? w _ hw477_3)).trans hw477_3), ((HB.out.cell (World.block_lt_of_cell? w _ hw477_4)).trans hw477_4), ((HB.out.cell (World.block_lt_of_cell? w _ hw477_5)).trans hw477_5), ((HB.out.cell (World.block_lt_of_cell? w _ hw477_6)).trans hw477_6), ((HB.out.cell (World.block_lt_of_cell? w _ hw477_7)).trans hw477_7), ((HB.out.cell (World.block_lt_of_cell? w _ hw477_8)).trans hw477_8), ((HB.out.cell (World.block_lt_of_cell? w _ hw477_9)).trans hw477_9), ((HB.out.cell (World.block_lt_of_cell? w _ hw477_10)).trans hw477_10), ((HB.out.cell (World.block_lt_of_cell? w _ hw477_11)).trans hw477_11), ((HB.out.cell (World.block_lt_of_cell? w _ hw477_12)).trans hw477_12), ((HB.out.cell (World.block_lt_of_cell? w _ hw477_13)).trans hw477_13)⟩ (fun hHeld => ?_)
       clear hK K
       refine norm_ (a' := ?_) ?_ ?_
       rotate_left
       ·show Act.put _ (some 41) _ = _
        simp only [Act.put, List.setIfInBounds_toArray, List.set_cons_zero, List.set_cons_succ, i64_w, i32_w]
        rfl
       refine pure_ (i := 19) (N := some 42) (v := ?_) (a' := ?_) #[true, true, true, true, true, true, true, true, true, true, true, true, true, true, true, true, true, true, true, true, false] rfl rfl (any_of HT_.out (by kernel_rfl)) (fun _ _ _ h => h) (Or.inl ⟨by rfl, ?_⟩) ?_ ?_
       rotate_left
       ·intro w'
        go_simp
        with_reducible rfl
       rotate_left
       ·simp only [Act.put, List.setIfInBounds_toArray, List.set_cons_zero, List.set_cons_succ, i64_w, i32_w]
        rfl
       refine pure_ (i := 20) (N := some 43) (v := ?_) (a' := ?_) #[true, true, true, true, true, true, true, true, true, true, true, true, true, true, true, true, true, true, true, true, true] rfl rfl (any_of HT_.out (by kernel_rfl)) (fun _ _ _ h => h) (Or.inl ⟨by rfl, ?_⟩) ?_ ?_
       rotate_left
       ·intro w'
        go_simp
        with_reducible rfl
       rotate_left
       ·simp only [Act.put, List.setIfInBounds_toArray, List.set_cons_zero, List.set_cons_succ, i64_w, i32_w]
        rfl
       refine done_ (done_of HT_.out (by kernel_rfl)) ?_
       try go_wp2
       go_roundg k1
       case measure => have := HK1.out; omega
       case rel => exact ⟨(wrap64 (x5_1 + 1)), (by first | rfl | (simp; done) | (simp [*]; done) | (simp; decide)), H', ⟨by have := HK1.out; omega⟩, ⟨by repeat (first | (with_reducible first | exact HB.out | apply below_alloc | apply pw_below_drewN | apply below_drew1 | refine below_set ?_ GE472.out) | exact HB.out)⟩⟩
     ·rw [if_neg c7] at H
      exact absurd H (by simp)
    ·rw [if_neg c6] at H
     have c6b0 : decide (x5_1 < (l0.length : Int)) = false := decide_eq_false c6
     clear c6
     replace H := Option.bind_eq_some_iff.mp H
     obtain ⟨t465, A210, H⟩ := H
     replace H : ((watersmeetref07_Rejects.f k1 l0 a1).bind fun t466 => (if (t465 == t466) = true then ((watersmeetlaw07_awake.f k1).bind fun t467 => (some t467)) else (none))) = some r := H
     have A21 := Aside0.mk A210
     clear A210
     replace H := Option.bind_eq_some_iff.mp H
     obtain ⟨t466, A220, H⟩ := H
     replace H : (if (t465 == t466) = true then ((watersmeetlaw07_awake.f k1).bind fun t467 => (some t467)) else (none)) = some r := H
     have A22 := Aside0.mk A220
     clear A220
     by_cases c23 : (t465 == t466) = true
     ·rw [if_pos c23] at H
      have c23b0 : (t465 == t466) = true := c23
      (try (have c23b1 : decide (t465 = t466) = true := by simpa using c23))
      (try (have c23b2 : (t465 == t466) = true := by simpa using c23))
      clear c23
      replace H := Option.bind_eq_some_iff.mp H
      obtain ⟨t467, A240, H⟩ := H
      replace H : (some t467) = some r := H
      have A24 := Aside0.mk A240
      clear A240
      obtain rfl := Option.some.inj H
      go_wp2_with (first | ((with_reducible refine gate_callee (f := 28) rfl ?_); refine goesL_ (some 46) rfl rfl Try.func28 (by kernel_rfl) rfl #[.slice A0 l0.length c0, .int .u64 a1] rfl (by (try simp only [List.map_toArray, List.map_cons, List.map_nil]); first | done | rfl | (simp only [List.length_drop, List.length_take]; rfl)) ?_; (with_reducible refine (reject_Rejects.calls k1 _ _ l0 a1 t465 _ ?side1 ?side2 A21.out).mono ?_); (case side1 => repeat (first | exact (Kd.C_below HR0.out HB.out) | (with_reducible refine Kd.C_alloc ?_ _) | (with_reducible refine Kd.C_drewN ?_ _) | (with_reducible refine Kd.C_drew ?_))); (case side2 => exact HC0.out); rintro e w25 ⟨rfl, hb⟩; refine ⟨_, rfl, ?_⟩; have n0_ := Aside0.mk (below_step (by repeat (first | (with_reducible first | exact HB.out | apply below_alloc | apply pw_below_drewN | apply below_drew1) | exact HB.out)) hb); clear HB; have HB := n0_; clear n0_; (try clear hb); (try clear hb2); (try clear hk); (try clear hi)) | ((with_reducible refine gate_callee (f := 29) rfl ?_); refine goesL_ (some 49) rfl rfl Try.func29 (by kernel_rfl) rfl #[.slice A0 l0.length c0, .int .u64 a1] rfl (by (try simp only [List.map_toArray, List.map_cons, List.map_nil]); first | done | rfl | (simp only [List.length_drop, List.length_take]; rfl)) ?_; (with_reducible refine (watersmeetref07_Rejects.calls k1 _ _ l0 a1 t466 _ ?side1 ?side2 A22.out).mono ?_); (case side1 => repeat (first | exact (Kd.C_below HR0.out HB.out) | (with_reducible refine Kd.C_alloc ?_ _) | (with_reducible refine Kd.C_drewN ?_ _) | (with_reducible refine Kd.C_drew ?_))); (case side2 => exact HC0.out); rintro e w26 ⟨rfl, hb⟩; refine ⟨_, rfl, ?_⟩; have n0_ := Aside0.mk (below_step (by repeat (first | (with_reducible first | exact HB.out | apply below_alloc | apply pw_below_drewN | apply below_drew1) | exact HB.out)) hb); clear HB; have HB := n0_; clear n0_; (try clear hb); (try clear hb2); (try clear hk); (try clear hi)) | (go_at_call 25; (with_reducible refine (watersmeetlaw07_awake.calls k1  t467 _ A24.out).mono ?_); rintro e w27 ⟨rfl, hb⟩; have n0_ := Aside0.mk (below_step (by repeat (first | (with_reducible first | exact HB.out | apply below_alloc | apply pw_below_drewN | apply below_drew1) | exact HB.out)) hb); clear HB; have HB := n0_; clear n0_; (try clear hb); (try clear hb2); (try clear hk); (try clear hi)))
      go_ret
      exact ⟨by first | rfl | (simp [errW_none, errW_some] <;> rfl) | (simp [*, errW_none, errW_some] <;> rfl), by repeat (first | (with_reducible first | exact HB.out | apply below_alloc | apply pw_below_drewN | apply below_drew1) | exact HB.out)⟩
     ·rw [if_neg c23] at H
      exact absurd H (by simp)
 ·replace c4 := Bool.eq_false_iff.mpr c4
  subst c4
  have H1 : ((watersmeetlaw07_awake.f k).bind fun t464 => (some t464)) = some r := by rw [if_neg (show ¬ (false = true) by decide)] at H; exact H
  clear H
  have H := H1
  clear H1
  replace H := Option.bind_eq_some_iff.mp H
  obtain ⟨t464, A280, H⟩ := H
  replace H : (some t464) = some r := H
  have A28 := Aside0.mk A280
  clear A280
  obtain rfl := Option.some.inj H
  go_enter Try.func6, Try.ntmps6
  go_wp2_with (first | ((with_reducible refine gate_callee (f := 24) rfl ?_); refine goesL_ (some 8) rfl rfl Try.func24 (by kernel_rfl) rfl #[.slice A0 l0.length c0] rfl (by (try simp only [List.map_toArray, List.map_cons, List.map_nil]); first | done | rfl | (simp only [List.length_drop, List.length_take]; rfl)) ?_; (with_reducible refine (watersmeetlaw07_few.calls k _ _ l0 false _ ?side1 ?side2 A3.out).mono ?_); (case side1 => repeat (first | exact HR0.out | (with_reducible refine Kd.C_alloc ?_ _) | (with_reducible refine Kd.C_drewN ?_ _) | (with_reducible refine Kd.C_drew ?_))); (case side2 => exact HC0.out); rintro e w29 ⟨rfl, hb⟩; refine ⟨_, rfl, ?_⟩; have n0_ := Aside0.mk (below_step (by repeat (first | (with_reducible first | exact HB.out | apply below_alloc | apply pw_below_drewN | apply below_drew1) | exact HB.out)) hb); clear HB; have HB := n0_; clear n0_; (try clear hb); (try clear hb2); (try clear hk); (try clear hi)) | ((with_reducible refine gate_callee (f := 25) rfl ?_); refine goesL_ (some 10) rfl rfl Try.func25 (by kernel_rfl) rfl #[] rfl (by (try simp only [List.map_toArray, List.map_cons, List.map_nil]); first | done | rfl | (simp only [List.length_drop, List.length_take]; rfl)) ?_; (with_reducible refine (watersmeetlaw07_awake.calls k  t464 _ A28.out).mono ?_); rintro e w30 ⟨rfl, hb⟩; refine ⟨_, rfl, ?_⟩; have n0_ := Aside0.mk (below_step (by repeat (first | (with_reducible first | exact HB.out | apply below_alloc | apply pw_below_drewN | apply below_drew1) | exact HB.out)) hb); clear HB; have HB := n0_; clear n0_; (try clear hb); (try clear hb2); (try clear hk); (try clear hi)))
  go_ret
  exact ⟨by first | rfl | (simp [errW_none, errW_some] <;> rfl) | (simp [*, errW_none, errW_some] <;> rfl), by repeat (first | (with_reducible first | exact HB.out | apply below_alloc | apply pw_below_drewN | apply below_drew1) | exact HB.out)⟩


open Go.Proofs.Ytigkkfhpnfjmhaa.Opens in
def watersmeetlaw07_RejectTells.Pure : Prop := ∀ (x0 : List (S46)) (x1 : Int), (SliceB 128 b46) x0 → (fun x => (Lit.int .u64 x).wf = true) x1 → ∃ k, watersmeetlaw07_RejectTells.f k x0 x1 = some true

end Go.Proofs.Ytigkkfhpnfjmhaa.PRejT
