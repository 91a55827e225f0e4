/- Laid by a program of this session over the printer of the kit: contracts of functions of the given program, and rows of laws. Lean checks it. -/
import Derived.Test.YtigkkfhpnfjmhaaPRejMx0
import Derived.Test.YtigkkfhpnfjmhaaPRejMx1
import Derived.Test.YtigkkfhpnfjmhaaPRejMx2
import Derived.Test.YtigkkfhpnfjmhaaPRejMx4
namespace Go.Proofs.Ytigkkfhpnfjmhaa.PRejM
open Go.RowKit Go.Proofs.YtigkkfhpnfjmhaaW.PrintWords Go.Proofs.YtigkkfhpnfjmhaaW.PrintLast Go.Proofs.YtigkkfhpnfjmhaaW.PrintMore
attribute [local go_sem] max2_int min2_int max_two min_two max_three min_three max_four min_four   -- for this text's walks alone
set_option linter.unusedVariables false
set_option linter.unusedSimpArgs false

attribute [local go_sem high] eqA39
/-! ### reject_Rejects: function 28 -/
def reject_Rejects.f (k : Nat) (l0 : List (S46)) (a1 : Int) : Option (Bool) := (reject_May.f k 4 0 0 0 0 0 false 0 0 0 0 false 0 l0 a1).bind fun bt241 => (some (!bt241.2.2))
theorem reject_Rejects.mono : ∀ a0 a1 k, LeO (reject_Rejects.f k a0 a1) (reject_Rejects.f (k + 1) a0 a1) := by
 intro a0 a1 k
 unfold reject_Rejects.f
 repeat' first
   | (with_reducible exact reject_May.mono _ _ _ _ _ _ _ _ _ _ _ _ _ _ _ _)
   | (with_reducible exact LeO.refl _)
   | (with_reducible exact LeO.none _)
   | (with_reducible refine LeO.ite ?_ ?_)
   | (with_reducible refine LeO.bind ?_ (fun _ => ?_))
   | exact reject_May.mono _ _ _ _ _ _ _ _ _ _ _ _ _ _ _ _
   | exact LeO.none _
   | refine LeO.ite ?_ ?_
   | refine LeO.bind ?_ (fun _ => ?_)
set_option maxHeartbeats 8000000 in
set_option maxRecDepth 100000 in
theorem reject_Rejects.calls (k : Nat) (A0 : Option Addr) (c0 : Nat) (l0 : List (S46)) (a1 : Int) (r : Bool) (w : World) (hr0 : Kd.C k46 w A0 l0.length l0) (hc0 : l0.length ≤ c0) (h : reject_Rejects.f k l0 a1 = some r) :
  Calls Try.prog 28 #[.slice A0 l0.length c0, .int .u64 a1] w fun e w' => e = .returned (.bool r) ∧ Below w.heap.size w w' := by
 have hu46 := Try.underlying46
 have hix39_2 : ∀ (y0 : Bool) (y1 : Bool) (y2 : Bool) (w : World), (Instr.index 39 (.agg #[.bool y0, .bool y1, .bool y2]) (.int .i64 2)).run Try.prog w = .ok (.bool y2) w := by
  intro y0 y1 y2 w
  first | rfl | (simp only [Instr.index, hu39, go_sem]; done) | (simp only [Instr.index, hu39, go_sem]; rfl)
 have HR0 := Aside0.mk hr0
 have HC0 := Aside0.mk hc0
 clear hr0 hc0
 have HB := Aside0.mk (Below.refl w.heap.size w)
 have H : ((reject_May.f k 4 0 0 0 0 0 false 0 0 0 0 false 0 l0 a1).bind fun bt241 => (some (!bt241.2.2))) = some r := h
 clear h
 replace H := Option.bind_eq_some_iff.mp H
 obtain ⟨⟨t241, t242, t243⟩, A30, H⟩ := H
 replace H : (some (!t243)) = some r := H
 have A3 := Aside0.mk A30
 clear A30
 obtain rfl := Option.some.inj H
 go_enter Try.func28, Try.ntmps28
 go_wp2_with (first | ((with_reducible refine gate_callee (f := 26) rfl ?_); refine goesL_ (some 8) rfl rfl Try.func26 (by kernel_rfl) rfl #[.agg #[.int .i64 4, .int .i64 0, .int .i64 0, .int .i64 0, .int .i64 0, .int .i64 0, .bool false, .int .i64 0, .int .i64 0, .int .i64 0, .int .i64 0, .bool false, .int .i64 0, .slice A0 l0.length c0], .int .u64 a1] rfl (by (try simp only [List.map_toArray, List.map_cons, List.map_nil]); first | done | rfl | (simp only [List.length_drop, List.length_take]; rfl)) ?_; (with_reducible refine (reject_May.calls k 4 0 0 0 0 0 false 0 0 0 0 false 0 _ _ l0 a1 t241 t242 t243 _ ?side1 ?side2 A3.out).mono ?_); (case side1 => exact cd_ HR0.out); (case side2 => exact HC0.out); rintro e w4 ⟨rfl, hb⟩; refine ⟨_, rfl, ?_⟩; replace HB := Aside0.mk (below_step (bl_ HB.out) hb); (try clear hb)))
 go_ret
 exact ⟨by first | rfl | (simp [errW_none, errW_some] <;> rfl) | (simp [*, errW_none, errW_some] <;> rfl), by repeat (first | (with_reducible first | exact HB.out | apply below_alloc | apply pw_below_drewN | apply below_drew1) | exact HB.out)⟩

/-! ### watersmeetlaw06_Equal: function 55 -/
def watersmeetlaw06_Equal.f (a0 : Int) (a1 : Int) : Option (Int × Int × Int × Int × Int × Int × Bool × Int × Int × Int × Int × Bool × Int × (List (S46))) := some (2, 0, 1, 1, a0, 0, false, 0, 1, a1, 0, false, 0, ([] : List (S46)))
set_option maxHeartbeats 8000000 in
set_option maxRecDepth 100000 in
theorem watersmeetlaw06_Equal.calls (a0 : Int) (a1 : Int) (r1 : Int) (r2 : Int) (r3 : Int) (r4 : Int) (r5 : Int) (r6 : Int) (r7 : Bool) (r8 : Int) (r9 : Int) (r10 : Int) (r11 : Int) (r12 : Bool) (r13 : Int) (r14 : List (S46)) (w : World) (h : watersmeetlaw06_Equal.f a0 a1 = some (r1, r2, r3, r4, r5, r6, r7, r8, r9, r10, r11, r12, r13, r14)) :
  Calls Try.prog 55 #[.int .i64 a0, .int .i64 a1] w fun e w' => e = .returned (.agg #[.int .i64 r1, .int .i64 r2, .int .i64 r3, .int .i64 r4, .int .i64 r5, .int .i64 r6, .bool r7, .int .i64 r8, .int .i64 r9, .int .i64 r10, .int .i64 r11, .bool r12, .int .i64 r13, .slice none 0 0]) ∧ Below w.heap.size w w' := by
 have hu46 := Try.underlying46
 have hu44 := Try.underlying44
 have HB := Aside0.mk (Below.refl w.heap.size w)
 have H : (some (2, 0, 1, 1, a0, 0, false, 0, 1, a1, 0, false, 0, ([] : List (S46)))) = some (r1, r2, r3, r4, r5, r6, r7, r8, r9, r10, r11, r12, r13, r14) := h
 clear h
 simp only [Option.some.injEq, Prod.mk.injEq] at H
 obtain ⟨rfl, rfl, rfl, rfl, rfl, rfl, rfl, rfl, rfl, rfl, rfl, rfl, rfl, rfl⟩ := H
 go_enter Try.func55, Try.ntmps55
 go_wp2_with (first | ((with_reducible refine gate_dst (N := 4) rfl ?_); refine box_event ?hg (N := 4) ?hd (cs := #[.int .i64 0, .int .i64 0, .int .i64 0, .int .i64 0, .int .i64 0, .int .i64 0, .bool false, .int .i64 0, .int .i64 0, .int .i64 0, .int .i64 0, .bool false, .int .i64 0, .slice none 0 0]) (t := 46) ?hr ?_; (case hd => rfl); (case hg => rfl); (case hr => first | (go_simp; done) | (go_simp; rfl)); intro gb244 hg w3 hbox hb; have BK244 := Aside0.mk (hbox); have GW244 := Aside0.mk ((by rw [hg]; exact (below_size (bl_ HB.out)) : w.heap.size ≤ gb244)); replace HB := Aside0.mk (below_step (bl_ HB.out) hb); have GE244 := GW244; clear hb hbox hg; have hcz4 := blk_cell BK244.out; have hfz4 := blk_frozen BK244.out; have hfz4_13 := blk_frozen BK244.out 13))
 refine bodyPost_ret (results_cell_row rfl _ _ gb244 46 #[.int .i64 2, .int .i64 0, .int .i64 1, .int .i64 1, .int .i64 a0, .int .i64 0, .bool false, .int .i64 0, .int .i64 1, .int .i64 a1, .int .i64 0, .bool false, .int .i64 0, .slice none 0 0] (0, 0) _ rfl (by (with_reducible repeat (first | refine blk_drewN ?_ _ | refine blk_drew ?_ | refine blk_alloc ?_ _)); refine blk_put (cs := #[.int .i64 2, .int .i64 0, .int .i64 1, .int .i64 1, .int .i64 a0, .int .i64 0, .bool false, .int .i64 0, .int .i64 1, .int .i64 a1, .int .i64 0, .bool false, .int .i64 0, .slice none 0 0]) ?_ 13 _ rfl; (with_reducible repeat (first | refine blk_drewN ?_ _ | refine blk_drew ?_ | refine blk_alloc ?_ _)); refine blk_put (cs := #[.int .i64 2, .int .i64 0, .int .i64 1, .int .i64 1, .int .i64 a0, .int .i64 0, .bool false, .int .i64 0, .int .i64 1, .int .i64 a1, .int .i64 0, .bool false, .int .i64 0, .slice none 0 0]) ?_ 12 _ rfl; (with_reducible repeat (first | refine blk_drewN ?_ _ | refine blk_drew ?_ | refine blk_alloc ?_ _)); refine blk_put (cs := #[.int .i64 2, .int .i64 0, .int .i64 1, .int .i64 1, .int .i64 a0, .int .i64 0, .bool false, .int .i64 0, .int .i64 1, .int .i64 a1, .int .i64 0, .bool false, .int .i64 0, .slice none 0 0]) ?_ 11 _ rfl; (with_reducible repeat (first | refine blk_drewN ?_ _ | refine blk_drew ?_ | refine blk_alloc ?_ _)); refine blk_put (cs := #[.int .i64 2, .int .i64 0, .int .i64 1, .int .i64 1, .int .i64 a0, .int .i64 0, .bool false, .int .i64 0, .int .i64 1, .int .i64 a1, .int .i64 0, .bool false, .int .i64 0, .slice none 0 0]) ?_ 10 _ rfl; (with_reducible repeat (first | refine blk_drewN ?_ _ | refine blk_drew ?_ | refine blk_alloc ?_ _)); refine blk_put (cs := #[.int .i64 2, .int .i64 0, .int .i64 1, .int .i64 1, .int .i64 a0, .int .i64 0, .bool false, .int .i64 0, .int .i64 1, .int .i64 0, .int .i64 0, .bool false, .int .i64 0, .slice none 0 0]) ?_ 9 _ rfl; (with_reducible repeat (first | refine blk_drewN ?_ _ | refine blk_drew ?_ | refine blk_alloc ?_ _)); refine blk_put (cs := #[.int .i64 2, .int .i64 0, .int .i64 1, .int .i64 1, .int .i64 a0, .int .i64 0, .bool false, .int .i64 0, .int .i64 0, .int .i64 0, .int .i64 0, .bool false, .int .i64 0, .slice none 0 0]) ?_ 8 _ rfl; (with_reducible repeat (first | refine blk_drewN ?_ _ | refine blk_drew ?_ | refine blk_alloc ?_ _)); refine blk_put (cs := #[.int .i64 2, .int .i64 0, .int .i64 1, .int .i64 1, .int .i64 a0, .int .i64 0, .bool false, .int .i64 0, .int .i64 0, .int .i64 0, .int .i64 0, .bool false, .int .i64 0, .slice none 0 0]) ?_ 7 _ rfl; (with_reducible repeat (first | refine blk_drewN ?_ _ | refine blk_drew ?_ | refine blk_alloc ?_ _)); refine blk_put (cs := #[.int .i64 2, .int .i64 0, .int .i64 1, .int .i64 1, .int .i64 a0, .int .i64 0, .bool false, .int .i64 0, .int .i64 0, .int .i64 0, .int .i64 0, .bool false, .int .i64 0, .slice none 0 0]) ?_ 6 _ rfl; (with_reducible repeat (first | refine blk_drewN ?_ _ | refine blk_drew ?_ | refine blk_alloc ?_ _)); refine blk_put (cs := #[.int .i64 2, .int .i64 0, .int .i64 1, .int .i64 1, .int .i64 a0, .int .i64 0, .bool false, .int .i64 0, .int .i64 0, .int .i64 0, .int .i64 0, .bool false, .int .i64 0, .slice none 0 0]) ?_ 5 _ rfl; (with_reducible repeat (first | refine blk_drewN ?_ _ | refine blk_drew ?_ | refine blk_alloc ?_ _)); refine blk_put (cs := #[.int .i64 2, .int .i64 0, .int .i64 1, .int .i64 1, .int .i64 0, .int .i64 0, .bool false, .int .i64 0, .int .i64 0, .int .i64 0, .int .i64 0, .bool false, .int .i64 0, .slice none 0 0]) ?_ 4 _ rfl; (with_reducible repeat (first | refine blk_drewN ?_ _ | refine blk_drew ?_ | refine blk_alloc ?_ _)); refine blk_put (cs := #[.int .i64 2, .int .i64 0, .int .i64 1, .int .i64 0, .int .i64 0, .int .i64 0, .bool false, .int .i64 0, .int .i64 0, .int .i64 0, .int .i64 0, .bool false, .int .i64 0, .slice none 0 0]) ?_ 3 _ rfl; (with_reducible repeat (first | refine blk_drewN ?_ _ | refine blk_drew ?_ | refine blk_alloc ?_ _)); refine blk_put (cs := #[.int .i64 2, .int .i64 0, .int .i64 0, .int .i64 0, .int .i64 0, .int .i64 0, .bool false, .int .i64 0, .int .i64 0, .int .i64 0, .int .i64 0, .bool false, .int .i64 0, .slice none 0 0]) ?_ 2 _ rfl; (with_reducible repeat (first | refine blk_drewN ?_ _ | refine blk_drew ?_ | refine blk_alloc ?_ _)); refine blk_put (cs := #[.int .i64 2, .int .i64 0, .int .i64 0, .int .i64 0, .int .i64 0, .int .i64 0, .bool false, .int .i64 0, .int .i64 0, .int .i64 0, .int .i64 0, .bool false, .int .i64 0, .slice none 0 0]) ?_ 1 _ rfl; (with_reducible repeat (first | refine blk_drewN ?_ _ | refine blk_drew ?_ | refine blk_alloc ?_ _)); refine blk_put (cs := #[.int .i64 0, .int .i64 0, .int .i64 0, .int .i64 0, .int .i64 0, .int .i64 0, .bool false, .int .i64 0, .int .i64 0, .int .i64 0, .int .i64 0, .bool false, .int .i64 0, .slice none 0 0]) ?_ 0 _ rfl; (with_reducible repeat (first | refine blk_drewN ?_ _ | refine blk_drew ?_ | refine blk_alloc ?_ _)); exact BK244.out) Try.underlying46 rfl (by kernel_rfl)) rfl ?_
 exact ⟨by first | rfl | (simp [errW_none, errW_some] <;> rfl) | (simp [*, errW_none, errW_some] <;> rfl), by repeat (first | (with_reducible first | exact HB.out | apply below_alloc | apply pw_below_drewN | apply below_drew1 | refine below_set ?_ GE244.out) | exact HB.out)⟩

/-! ### watersmeetlaw07_isNull: function 56 -/
def watersmeetlaw07_isNull.f (a0 : Int) : Option (Int × Int × Int × Int × Int × Int × Bool × Int × Int × Int × Int × Bool × Int × (List (S46))) := some (3, 0, 0, 1, a0, 0, false, 0, 0, 0, 0, false, 0, ([] : List (S46)))
set_option maxHeartbeats 8000000 in
set_option maxRecDepth 100000 in
theorem watersmeetlaw07_isNull.calls (a0 : Int) (r1 : Int) (r2 : Int) (r3 : Int) (r4 : Int) (r5 : Int) (r6 : Int) (r7 : Bool) (r8 : Int) (r9 : Int) (r10 : Int) (r11 : Int) (r12 : Bool) (r13 : Int) (r14 : List (S46)) (w : World) (h : watersmeetlaw07_isNull.f a0 = some (r1, r2, r3, r4, r5, r6, r7, r8, r9, r10, r11, r12, r13, r14)) :
  Calls Try.prog 56 #[.int .i64 a0] w fun e w' => e = .returned (.agg #[.int .i64 r1, .int .i64 r2, .int .i64 r3, .int .i64 r4, .int .i64 r5, .int .i64 r6, .bool r7, .int .i64 r8, .int .i64 r9, .int .i64 r10, .int .i64 r11, .bool r12, .int .i64 r13, .slice none 0 0]) ∧ Below w.heap.size w w' := by
 have hu46 := Try.underlying46
 have hu44 := Try.underlying44
 have HB := Aside0.mk (Below.refl w.heap.size w)
 have H : (some (3, 0, 0, 1, a0, 0, false, 0, 0, 0, 0, false, 0, ([] : List (S46)))) = some (r1, r2, r3, r4, r5, r6, r7, r8, r9, r10, r11, r12, r13, r14) := h
 clear h
 simp only [Option.some.injEq, Prod.mk.injEq] at H
 obtain ⟨rfl, rfl, rfl, rfl, rfl, rfl, rfl, rfl, rfl, rfl, rfl, rfl, rfl, rfl⟩ := H
 go_enter Try.func56, Try.ntmps56
 go_wp2_with (first | ((with_reducible refine gate_dst (N := 2) rfl ?_); refine box_event ?hg (N := 2) ?hd (cs := #[.int .i64 0, .int .i64 0, .int .i64 0, .int .i64 0, .int .i64 0, .int .i64 0, .bool false, .int .i64 0, .int .i64 0, .int .i64 0, .int .i64 0, .bool false, .int .i64 0, .slice none 0 0]) (t := 46) ?hr ?_; (case hd => rfl); (case hg => rfl); (case hr => first | (go_simp; done) | (go_simp; rfl)); intro gb245 hg w2 hbox hb; have BK245 := Aside0.mk (hbox); have GW245 := Aside0.mk ((by rw [hg]; exact (below_size (bl_ HB.out)) : w.heap.size ≤ gb245)); replace HB := Aside0.mk (below_step (bl_ HB.out) hb); have GE245 := GW245; clear hb hbox hg; have hcz3 := blk_cell BK245.out; have hfz3 := blk_frozen BK245.out; have hfz3_13 := blk_frozen BK245.out 13))
 refine bodyPost_ret (results_cell_row rfl _ _ gb245 46 #[.int .i64 3, .int .i64 0, .int .i64 0, .int .i64 1, .int .i64 a0, .int .i64 0, .bool false, .int .i64 0, .int .i64 0, .int .i64 0, .int .i64 0, .bool false, .int .i64 0, .slice none 0 0] (0, 0) _ rfl (by (with_reducible repeat (first | refine blk_drewN ?_ _ | refine blk_drew ?_ | refine blk_alloc ?_ _)); refine blk_put (cs := #[.int .i64 3, .int .i64 0, .int .i64 0, .int .i64 1, .int .i64 a0, .int .i64 0, .bool false, .int .i64 0, .int .i64 0, .int .i64 0, .int .i64 0, .bool false, .int .i64 0, .slice none 0 0]) ?_ 13 _ rfl; (with_reducible repeat (first | refine blk_drewN ?_ _ | refine blk_drew ?_ | refine blk_alloc ?_ _)); refine blk_put (cs := #[.int .i64 3, .int .i64 0, .int .i64 0, .int .i64 1, .int .i64 a0, .int .i64 0, .bool false, .int .i64 0, .int .i64 0, .int .i64 0, .int .i64 0, .bool false, .int .i64 0, .slice none 0 0]) ?_ 12 _ rfl; (with_reducible repeat (first | refine blk_drewN ?_ _ | refine blk_drew ?_ | refine blk_alloc ?_ _)); refine blk_put (cs := #[.int .i64 3, .int .i64 0, .int .i64 0, .int .i64 1, .int .i64 a0, .int .i64 0, .bool false, .int .i64 0, .int .i64 0, .int .i64 0, .int .i64 0, .bool false, .int .i64 0, .slice none 0 0]) ?_ 11 _ rfl; (with_reducible repeat (first | refine blk_drewN ?_ _ | refine blk_drew ?_ | refine blk_alloc ?_ _)); refine blk_put (cs := #[.int .i64 3, .int .i64 0, .int .i64 0, .int .i64 1, .int .i64 a0, .int .i64 0, .bool false, .int .i64 0, .int .i64 0, .int .i64 0, .int .i64 0, .bool false, .int .i64 0, .slice none 0 0]) ?_ 10 _ rfl; (with_reducible repeat (first | refine blk_drewN ?_ _ | refine blk_drew ?_ | refine blk_alloc ?_ _)); refine blk_put (cs := #[.int .i64 3, .int .i64 0, .int .i64 0, .int .i64 1, .int .i64 a0, .int .i64 0, .bool false, .int .i64 0, .int .i64 0, .int .i64 0, .int .i64 0, .bool false, .int .i64 0, .slice none 0 0]) ?_ 9 _ rfl; (with_reducible repeat (first | refine blk_drewN ?_ _ | refine blk_drew ?_ | refine blk_alloc ?_ _)); refine blk_put (cs := #[.int .i64 3, .int .i64 0, .int .i64 0, .int .i64 1, .int .i64 a0, .int .i64 0, .bool false, .int .i64 0, .int .i64 0, .int .i64 0, .int .i64 0, .bool false, .int .i64 0, .slice none 0 0]) ?_ 8 _ rfl; (with_reducible repeat (first | refine blk_drewN ?_ _ | refine blk_drew ?_ | refine blk_alloc ?_ _)); refine blk_put (cs := #[.int .i64 3, .int .i64 0, .int .i64 0, .int .i64 1, .int .i64 a0, .int .i64 0, .bool false, .int .i64 0, .int .i64 0, .int .i64 0, .int .i64 0, .bool false, .int .i64 0, .slice none 0 0]) ?_ 7 _ rfl; (with_reducible repeat (first | refine blk_drewN ?_ _ | refine blk_drew ?_ | refine blk_alloc ?_ _)); refine blk_put (cs := #[.int .i64 3, .int .i64 0, .int .i64 0, .int .i64 1, .int .i64 a0, .int .i64 0, .bool false, .int .i64 0, .int .i64 0, .int .i64 0, .int .i64 0, .bool false, .int .i64 0, .slice none 0 0]) ?_ 6 _ rfl; (with_reducible repeat (first | refine blk_drewN ?_ _ | refine blk_drew ?_ | refine blk_alloc ?_ _)); refine blk_put (cs := #[.int .i64 3, .int .i64 0, .int .i64 0, .int .i64 1, .int .i64 a0, .int .i64 0, .bool false, .int .i64 0, .int .i64 0, .int .i64 0, .int .i64 0, .bool false, .int .i64 0, .slice none 0 0]) ?_ 5 _ rfl; (with_reducible repeat (first | refine blk_drewN ?_ _ | refine blk_drew ?_ | refine blk_alloc ?_ _)); refine blk_put (cs := #[.int .i64 3, .int .i64 0, .int .i64 0, .int .i64 1, .int .i64 0, .int .i64 0, .bool false, .int .i64 0, .int .i64 0, .int .i64 0, .int .i64 0, .bool false, .int .i64 0, .slice none 0 0]) ?_ 4 _ rfl; (with_reducible repeat (first | refine blk_drewN ?_ _ | refine blk_drew ?_ | refine blk_alloc ?_ _)); refine blk_put (cs := #[.int .i64 3, .int .i64 0, .int .i64 0, .int .i64 0, .int .i64 0, .int .i64 0, .bool false, .int .i64 0, .int .i64 0, .int .i64 0, .int .i64 0, .bool false, .int .i64 0, .slice none 0 0]) ?_ 3 _ rfl; (with_reducible repeat (first | refine blk_drewN ?_ _ | refine blk_drew ?_ | refine blk_alloc ?_ _)); refine blk_put (cs := #[.int .i64 3, .int .i64 0, .int .i64 0, .int .i64 0, .int .i64 0, .int .i64 0, .bool false, .int .i64 0, .int .i64 0, .int .i64 0, .int .i64 0, .bool false, .int .i64 0, .slice none 0 0]) ?_ 2 _ rfl; (with_reducible repeat (first | refine blk_drewN ?_ _ | refine blk_drew ?_ | refine blk_alloc ?_ _)); refine blk_put (cs := #[.int .i64 3, .int .i64 0, .int .i64 0, .int .i64 0, .int .i64 0, .int .i64 0, .bool false, .int .i64 0, .int .i64 0, .int .i64 0, .int .i64 0, .bool false, .int .i64 0, .slice none 0 0]) ?_ 1 _ rfl; (with_reducible repeat (first | refine blk_drewN ?_ _ | refine blk_drew ?_ | refine blk_alloc ?_ _)); refine blk_put (cs := #[.int .i64 0, .int .i64 0, .int .i64 0, .int .i64 0, .int .i64 0, .int .i64 0, .bool false, .int .i64 0, .int .i64 0, .int .i64 0, .int .i64 0, .bool false, .int .i64 0, .slice none 0 0]) ?_ 0 _ rfl; (with_reducible repeat (first | refine blk_drewN ?_ _ | refine blk_drew ?_ | refine blk_alloc ?_ _)); exact BK245.out) Try.underlying46 rfl (by kernel_rfl)) rfl ?_
 exact ⟨by first | rfl | (simp [errW_none, errW_some] <;> rfl) | (simp [*, errW_none, errW_some] <;> rfl), by repeat (first | (with_reducible first | exact HB.out | apply below_alloc | apply pw_below_drewN | apply below_drew1 | refine below_set ?_ GE245.out) | exact HB.out)⟩

/-! ### watersmeetlaw07_awake: function 25 -/
def watersmeetlaw07_awake.f (k : Nat)  : Option (Bool) := (watersmeetlaw06_Equal.f 0 1).bind fun bt262 => ((reject_Rejects.f k (([(⟨2, 0, 1, (⟨1, 0, 0, (⟨false, 0⟩ : S42)⟩ : S44), (⟨1, 1, 0, (⟨false, 0⟩ : S42)⟩ : S44), ([] : List (S46))⟩ : S46)] : List (S46))) 1).bind fun t280 => (if t280 = true then ((watersmeetlaw07_isNull.f 0).bind fun bt297 => ((reject_Rejects.f k (([(⟨3, 0, 0, (⟨1, 0, 0, (⟨false, 0⟩ : S42)⟩ : S44), (⟨0, 0, 0, (⟨false, 0⟩ : S42)⟩ : S44), ([] : List (S46))⟩ : S46)] : List (S46))) 1).bind fun t314 => (if t314 = true then (none) else ((watersmeetlaw07_isNull.f 0).bind fun bt331 => ((reject_Rejects.f k (([(⟨3, 0, 0, (⟨1, 0, 0, (⟨false, 0⟩ : S42)⟩ : S44), (⟨0, 0, 0, (⟨false, 0⟩ : S42)⟩ : S44), ([] : List (S46))⟩ : S46), (⟨2, 0, 1, (⟨1, 0, 0, (⟨false, 0⟩ : S42)⟩ : S44), (⟨1, 1, 0, (⟨false, 0⟩ : S42)⟩ : S44), ([] : List (S46))⟩ : S46)] : List (S46))) 1).bind fun t348 => (if t348 = true then ((reject_May.f k 2 0 1 1 0 0 false 0 1 1 0 false 0 ([] : List (S46)) 0).bind fun bt349 => (if (bt349.1 && (bt349.2.1 && (bt349.2.2))) = true then ((reject_Rejects.f k ([] : List (S46)) 1).bind fun t352 => (some (!t352))) else (none))) else (none))))))) else (none)))
theorem watersmeetlaw07_awake.mono : ∀ k, LeO (watersmeetlaw07_awake.f k ) (watersmeetlaw07_awake.f (k + 1) ) := by
 intro  k
 unfold watersmeetlaw07_awake.f
 repeat' first
   | (with_reducible exact reject_May.mono _ _ _ _ _ _ _ _ _ _ _ _ _ _ _ _)
   | (with_reducible exact reject_Rejects.mono _ _ _)
   | (with_reducible exact LeO.refl _)
   | (with_reducible exact LeO.none _)
   | (with_reducible refine LeO.ite ?_ ?_)
   | (with_reducible refine LeO.bind ?_ (fun _ => ?_))
   | exact reject_May.mono _ _ _ _ _ _ _ _ _ _ _ _ _ _ _ _
   | exact reject_Rejects.mono _ _ _
   | exact LeO.none _
   | refine LeO.ite ?_ ?_
   | refine LeO.bind ?_ (fun _ => ?_)
def watersmeetlaw07_awake.T2 : Bool × List (List Nat × List Nat) := (true, [([], []), ([0], [0]), ([1], [1]), ([2, 2], [2]), ([3, 3], [3]), ([4, 3], [3, 4]), ([5, 4, 3], [3, 5]), ([6, 3], [3, 6]), ([3, 7], [3, 7]), ([8, 6], [8]), ([9, 9], [9]), ([9], [9]), ([10, 11, 9], [9, 10, 11]), ([12, 10, 9], [9, 12]), ([9, 13], [9, 13]), ([14, 13], [14]), ([15], [15]), ([16, 15, 15], [15, 16]), ([15], [15]), ([17, 18, 15], [15, 17, 18]), ([15, 19], [15, 19]), ([20, 17], [20]), ([21, 21], [21]), ([22, 21], [21, 22]), ([21, 23], [21, 23]), ([24, 22, 0, 1, 2, 3, 4, 5, 6, 7, 8, 9, 10, 11, 12, 13, 14, 15, 16, 17, 18, 19, 20, 21, 22, 23, 24], [24])])
def watersmeetlaw07_awake.B2 : List Nat := [0, 1, 3, 7, 15, 31, 63, 127, 255, 511, 1023, 1023, 4095, 8191, 16383, 32767, 65535, 131071, 65535, 524287, 1048575, 2097151, 4194303, 8388607, 16777215, 33554431]
theorem watersmeetlaw07_awake.tab2 : rtab .any (opsOf Try.f25 2) = watersmeetlaw07_awake.T2 := by kernel_rfl
theorem watersmeetlaw07_awake.bits2 : waitsOk watersmeetlaw07_awake.T2.2 watersmeetlaw07_awake.B2 = true := by kernel_rfl
set_option maxHeartbeats 8000000 in
set_option maxRecDepth 100000 in
theorem watersmeetlaw07_awake.calls (k : Nat)  (r : Bool) (w : World) (h : watersmeetlaw07_awake.f k  = some r) :
  Calls Try.prog 25 #[] w fun e w' => e = .returned (.bool r) ∧ Below w.heap.size w w' := by
 have hu46 := Try.underlying46
 have hu39 := Try.underlying39
 have HB := Aside0.mk (Below.refl w.heap.size w)
 have H : ((watersmeetlaw06_Equal.f 0 1).bind fun bt262 => ((reject_Rejects.f k (([(⟨2, 0, 1, (⟨1, 0, 0, (⟨false, 0⟩ : S42)⟩ : S44), (⟨1, 1, 0, (⟨false, 0⟩ : S42)⟩ : S44), ([] : List (S46))⟩ : S46)] : List (S46))) 1).bind fun t280 => (if t280 = true then ((watersmeetlaw07_isNull.f 0).bind fun bt297 => ((reject_Rejects.f k (([(⟨3, 0, 0, (⟨1, 0, 0, (⟨false, 0⟩ : S42)⟩ : S44), (⟨0, 0, 0, (⟨false, 0⟩ : S42)⟩ : S44), ([] : List (S46))⟩ : S46)] : List (S46))) 1).bind fun t314 => (if t314 = true then (none) else ((watersmeetlaw07_isNull.f 0).bind fun bt331 => ((reject_Rejects.f k (([(⟨3, 0, 0, (⟨1, 0, 0, (⟨false, 0⟩ : S42)⟩ : S44), (⟨0, 0, 0, (⟨false, 0⟩ : S42)⟩ : S44), ([] : List (S46))⟩ : S46), (⟨2, 0, 1, (⟨1, 0, 0, (⟨false, 0⟩ : S42)⟩ : S44), (⟨1, 1, 0, (⟨false, 0⟩ : S42)⟩ : S44), ([] : List (S46))⟩ : S46)] : List (S46))) 1).bind fun t348 => (if t348 = true then ((reject_May.f k 2 0 1 1 0 0 false 0 1 1 0 false 0 ([] : List (S46)) 0).bind fun bt349 => (if (bt349.1 && (bt349.2.1 && (bt349.2.2))) = true then ((reject_Rejects.f k ([] : List (S46)) 1).bind fun t352 => (some (!t352))) else (none))) else (none))))))) else (none)))) = some r := h
 clear h
 replace H := Option.bind_eq_some_iff.mp H
 obtain ⟨⟨t262, t263, t264, t265, t266, t267, t268, t269, t270, t271, t272, t273, t274, t275⟩, A10, H⟩ := H
 have E_ := A10
 simp only [watersmeetlaw06_Equal.f, Option.some.injEq, Prod.mk.injEq] at E_
 obtain ⟨rfl, rfl, rfl, rfl, rfl, rfl, rfl, rfl, rfl, rfl, rfl, rfl, rfl, rfl⟩ := E_
 replace H : ((reject_Rejects.f k (([(⟨2, 0, 1, (⟨1, 0, 0, (⟨false, 0⟩ : S42)⟩ : S44), (⟨1, 1, 0, (⟨false, 0⟩ : S42)⟩ : S44), ([] : List (S46))⟩ : S46)] : List (S46))) 1).bind fun t280 => (if t280 = true then ((watersmeetlaw07_isNull.f 0).bind fun bt297 => ((reject_Rejects.f k (([(⟨3, 0, 0, (⟨1, 0, 0, (⟨false, 0⟩ : S42)⟩ : S44), (⟨0, 0, 0, (⟨false, 0⟩ : S42)⟩ : S44), ([] : List (S46))⟩ : S46)] : List (S46))) 1).bind fun t314 => (if t314 = true then (none) else ((watersmeetlaw07_isNull.f 0).bind fun bt331 => ((reject_Rejects.f k (([(⟨3, 0, 0, (⟨1, 0, 0, (⟨false, 0⟩ : S42)⟩ : S44), (⟨0, 0, 0, (⟨false, 0⟩ : S42)⟩ : S44), ([] : List (S46))⟩ : S46), (⟨2, 0, 1, (⟨1, 0, 0, (⟨false, 0⟩ : S42)⟩ : S44), (⟨1, 1, 0, (⟨false, 0⟩ : S42)⟩ : S44), ([] : List (S46))⟩ : S46)] : List (S46))) 1).bind fun t348 => (if t348 = true then ((reject_May.f k 2 0 1 1 0 0 false 0 1 1 0 false 0 ([] : List (S46)) 0).bind fun bt349 => (if (bt349.1 && (bt349.2.1 && (bt349.2.2))) = true then ((reject_Rejects.f k ([] : List (S46)) 1).bind fun t352 => (some (!t352))) else (none))) else (none))))))) else (none))) = some r := H
 have A1 := Aside0.mk A10
 clear A10
 obtain ⟨y277, hy277⟩ : ∃ y_ : List (S46), y_ = (([(⟨2, 0, 1, (⟨1, 0, 0, (⟨false, 0⟩ : S42)⟩ : S44), (⟨1, 1, 0, (⟨false, 0⟩ : S42)⟩ : S44), ([] : List (S46))⟩ : S46)] : List (S46))) := ⟨_, rfl⟩
 replace H : ((reject_Rejects.f k y277 1).bind fun t280 => (if t280 = true then ((watersmeetlaw07_isNull.f 0).bind fun bt297 => ((reject_Rejects.f k (([(⟨3, 0, 0, (⟨1, 0, 0, (⟨false, 0⟩ : S42)⟩ : S44), (⟨0, 0, 0, (⟨false, 0⟩ : S42)⟩ : S44), ([] : List (S46))⟩ : S46)] : List (S46))) 1).bind fun t314 => (if t314 = true then (none) else ((watersmeetlaw07_isNull.f 0).bind fun bt331 => ((reject_Rejects.f k (([(⟨3, 0, 0, (⟨1, 0, 0, (⟨false, 0⟩ : S42)⟩ : S44), (⟨0, 0, 0, (⟨false, 0⟩ : S42)⟩ : S44), ([] : List (S46))⟩ : S46), (⟨2, 0, 1, (⟨1, 0, 0, (⟨false, 0⟩ : S42)⟩ : S44), (⟨1, 1, 0, (⟨false, 0⟩ : S42)⟩ : S44), ([] : List (S46))⟩ : S46)] : List (S46))) 1).bind fun t348 => (if t348 = true then ((reject_May.f k 2 0 1 1 0 0 false 0 1 1 0 false 0 ([] : List (S46)) 0).bind fun bt349 => (if (bt349.1 && (bt349.2.1 && (bt349.2.2))) = true then ((reject_Rejects.f k ([] : List (S46)) 1).bind fun t352 => (some (!t352))) else (none))) else (none))))))) else (none))) = some r := by first | (rw [hy277]; with_reducible exact H) | (have H2_ := (Option.bind_some _ _).symm.trans H; rw [hy277]; with_reducible exact H2_) | (have H2_ := (Option.bind_some _ _).symm.trans H; with_reducible exact H2_) | with_reducible exact H | (rw [hy277]; exact H) | exact H
 have Ny277 := Aside0.mk hy277
 clear hy277
 replace H := Option.bind_eq_some_iff.mp H
 obtain ⟨t280, A20, H⟩ := H
 replace H : (if t280 = true then ((watersmeetlaw07_isNull.f 0).bind fun bt297 => ((reject_Rejects.f k (([(⟨3, 0, 0, (⟨1, 0, 0, (⟨false, 0⟩ : S42)⟩ : S44), (⟨0, 0, 0, (⟨false, 0⟩ : S42)⟩ : S44), ([] : List (S46))⟩ : S46)] : List (S46))) 1).bind fun t314 => (if t314 = true then (none) else ((watersmeetlaw07_isNull.f 0).bind fun bt331 => ((reject_Rejects.f k (([(⟨3, 0, 0, (⟨1, 0, 0, (⟨false, 0⟩ : S42)⟩ : S44), (⟨0, 0, 0, (⟨false, 0⟩ : S42)⟩ : S44), ([] : List (S46))⟩ : S46), (⟨2, 0, 1, (⟨1, 0, 0, (⟨false, 0⟩ : S42)⟩ : S44), (⟨1, 1, 0, (⟨false, 0⟩ : S42)⟩ : S44), ([] : List (S46))⟩ : S46)] : List (S46))) 1).bind fun t348 => (if t348 = true then ((reject_May.f k 2 0 1 1 0 0 false 0 1 1 0 false 0 ([] : List (S46)) 0).bind fun bt349 => (if (bt349.1 && (bt349.2.1 && (bt349.2.2))) = true then ((reject_Rejects.f k ([] : List (S46)) 1).bind fun t352 => (some (!t352))) else (none))) else (none))))))) else (none)) = some r := H
 have A2 := Aside0.mk A20
 clear A20
 by_cases c3 : t280 = true
 ·subst c3
  have H1 : ((watersmeetlaw07_isNull.f 0).bind fun bt297 => ((reject_Rejects.f k (([(⟨3, 0, 0, (⟨1, 0, 0, (⟨false, 0⟩ : S42)⟩ : S44), (⟨0, 0, 0, (⟨false, 0⟩ : S42)⟩ : S44), ([] : List (S46))⟩ : S46)] : List (S46))) 1).bind fun t314 => (if t314 = true then (none) else ((watersmeetlaw07_isNull.f 0).bind fun bt331 => ((reject_Rejects.f k (([(⟨3, 0, 0, (⟨1, 0, 0, (⟨false, 0⟩ : S42)⟩ : S44), (⟨0, 0, 0, (⟨false, 0⟩ : S42)⟩ : S44), ([] : List (S46))⟩ : S46), (⟨2, 0, 1, (⟨1, 0, 0, (⟨false, 0⟩ : S42)⟩ : S44), (⟨1, 1, 0, (⟨false, 0⟩ : S42)⟩ : S44), ([] : List (S46))⟩ : S46)] : List (S46))) 1).bind fun t348 => (if t348 = true then ((reject_May.f k 2 0 1 1 0 0 false 0 1 1 0 false 0 ([] : List (S46)) 0).bind fun bt349 => (if (bt349.1 && (bt349.2.1 && (bt349.2.2))) = true then ((reject_Rejects.f k ([] : List (S46)) 1).bind fun t352 => (some (!t352))) else (none))) else (none))))))) = some r := by rw [if_pos rfl] at H; exact H
  clear H
  have H := H1
  clear H1
  replace H := Option.bind_eq_some_iff.mp H
  obtain ⟨⟨t297, t298, t299, t300, t301, t302, t303, t304, t305, t306, t307, t308, t309, t310⟩, A40, H⟩ := H
  have E_ := A40
  simp only [watersmeetlaw07_isNull.f, Option.some.injEq, Prod.mk.injEq] at E_
  obtain ⟨rfl, rfl, rfl, rfl, rfl, rfl, rfl, rfl, rfl, rfl, rfl, rfl, rfl, rfl⟩ := E_
  replace H : ((reject_Rejects.f k (([(⟨3, 0, 0, (⟨1, 0, 0, (⟨false, 0⟩ : S42)⟩ : S44), (⟨0, 0, 0, (⟨false, 0⟩ : S42)⟩ : S44), ([] : List (S46))⟩ : S46)] : List (S46))) 1).bind fun t314 => (if t314 = true then (none) else ((watersmeetlaw07_isNull.f 0).bind fun bt331 => ((reject_Rejects.f k (([(⟨3, 0, 0, (⟨1, 0, 0, (⟨false, 0⟩ : S42)⟩ : S44), (⟨0, 0, 0, (⟨false, 0⟩ : S42)⟩ : S44), ([] : List (S46))⟩ : S46), (⟨2, 0, 1, (⟨1, 0, 0, (⟨false, 0⟩ : S42)⟩ : S44), (⟨1, 1, 0, (⟨false, 0⟩ : S42)⟩ : S44), ([] : List (S46))⟩ : S46)] : List (S46))) 1).bind fun t348 => (if t348 = true then ((reject_May.f k 2 0 1 1 0 0 false 0 1 1 0 false 0 ([] : List (S46)) 0).bind fun bt349 => (if (bt349.1 && (bt349.2.1 && (bt349.2.2))) = true then ((reject_Rejects.f k ([] : List (S46)) 1).bind fun t352 => (some (!t352))) else (none))) else (none)))))) = some r := H
  have A4 := Aside0.mk A40
  clear A40
  obtain ⟨y311, hy311⟩ : ∃ y_ : List (S46), y_ = (([(⟨3, 0, 0, (⟨1, 0, 0, (⟨false, 0⟩ : S42)⟩ : S44), (⟨0, 0, 0, (⟨false, 0⟩ : S42)⟩ : S44), ([] : List (S46))⟩ : S46)] : List (S46))) := ⟨_, rfl⟩
  replace H : ((reject_Rejects.f k y311 1).bind fun t314 => (if t314 = true then (none) else ((watersmeetlaw07_isNull.f 0).bind fun bt331 => ((reject_Rejects.f k (([(⟨3, 0, 0, (⟨1, 0, 0, (⟨false, 0⟩ : S42)⟩ : S44), (⟨0, 0, 0, (⟨false, 0⟩ : S42)⟩ : S44), ([] : List (S46))⟩ : S46), (⟨2, 0, 1, (⟨1, 0, 0, (⟨false, 0⟩ : S42)⟩ : S44), (⟨1, 1, 0, (⟨false, 0⟩ : S42)⟩ : S44), ([] : List (S46))⟩ : S46)] : List (S46))) 1).bind fun t348 => (if t348 = true then ((reject_May.f k 2 0 1 1 0 0 false 0 1 1 0 false 0 ([] : List (S46)) 0).bind fun bt349 => (if (bt349.1 && (bt349.2.1 && (bt349.2.2))) = true then ((reject_Rejects.f k ([] : List (S46)) 1).bind fun t352 => (some (!t352))) else (none))) else (none)))))) = some r := by first | (rw [hy311]; with_reducible exact H) | (have H2_ := (Option.bind_some _ _).symm.trans H; rw [hy311]; with_reducible exact H2_) | (have H2_ := (Option.bind_some _ _).symm.trans H; with_reducible exact H2_) | with_reducible exact H | (rw [hy311]; exact H) | exact H
  have Ny311 := Aside0.mk hy311
  clear hy311
  replace H := Option.bind_eq_some_iff.mp H
  obtain ⟨t314, A50, H⟩ := H
  replace H : (if t314 = true then (none) else ((watersmeetlaw07_isNull.f 0).bind fun bt331 => ((reject_Rejects.f k (([(⟨3, 0, 0, (⟨1, 0, 0, (⟨false, 0⟩ : S42)⟩ : S44), (⟨0, 0, 0, (⟨false, 0⟩ : S42)⟩ : S44), ([] : List (S46))⟩ : S46), (⟨2, 0, 1, (⟨1, 0, 0, (⟨false, 0⟩ : S42)⟩ : S44), (⟨1, 1, 0, (⟨false, 0⟩ : S42)⟩ : S44), ([] : List (S46))⟩ : S46)] : List (S46))) 1).bind fun t348 => (if t348 = true then ((reject_May.f k 2 0 1 1 0 0 false 0 1 1 0 false 0 ([] : List (S46)) 0).bind fun bt349 => (if (bt349.1 && (bt349.2.1 && (bt349.2.2))) = true then ((reject_Rejects.f k ([] : List (S46)) 1).bind fun t352 => (some (!t352))) else (none))) else (none))))) = some r := H
  have A5 := Aside0.mk A50
  clear A50
  by_cases c6 : t314 = true
  ·subst c6
   have H1 : (none) = some r := by rw [if_pos rfl] at H; exact H
   clear H
   have H := H1
   clear H1
   exact absurd H (by simp)
  ·replace c6 := Bool.eq_false_iff.mpr c6
   subst c6
   have H1 : ((watersmeetlaw07_isNull.f 0).bind fun bt331 => ((reject_Rejects.f k (([(⟨3, 0, 0, (⟨1, 0, 0, (⟨false, 0⟩ : S42)⟩ : S44), (⟨0, 0, 0, (⟨false, 0⟩ : S42)⟩ : S44), ([] : List (S46))⟩ : S46), (⟨2, 0, 1, (⟨1, 0, 0, (⟨false, 0⟩ : S42)⟩ : S44), (⟨1, 1, 0, (⟨false, 0⟩ : S42)⟩ : S44), ([] : List (S46))⟩ : S46)] : List (S46))) 1).bind fun t348 => (if t348 = true then ((reject_May.f k 2 0 1 1 0 0 false 0 1 1 0 false 0 ([] : List (S46)) 0).bind fun bt349 => (if (bt349.1 && (bt349.2.1 && (bt349.2.2))) = true then ((reject_Rejects.f k ([] : List (S46)) 1).bind fun t352 => (some (!t352))) else (none))) else (none)))) = some r := by rw [if_neg (show ¬ (false = true) by decide)] at H; exact H
   clear H
   have H := H1
   clear H1
   replace H := Option.bind_eq_some_iff.mp H
   obtain ⟨⟨t331, t332, t333, t334, t335, t336, t337, t338, t339, t340, t341, t342, t343, t344⟩, A70, H⟩ := H
   have E_ := A70
   simp only [watersmeetlaw07_isNull.f, Option.some.injEq, Prod.mk.injEq] at E_
   obtain ⟨rfl, rfl, rfl, rfl, rfl, rfl, rfl, rfl, rfl, rfl, rfl, rfl, rfl, rfl⟩ := E_
   replace H : ((reject_Rejects.f k (([(⟨3, 0, 0, (⟨1, 0, 0, (⟨false, 0⟩ : S42)⟩ : S44), (⟨0, 0, 0, (⟨false, 0⟩ : S42)⟩ : S44), ([] : List (S46))⟩ : S46), (⟨2, 0, 1, (⟨1, 0, 0, (⟨false, 0⟩ : S42)⟩ : S44), (⟨1, 1, 0, (⟨false, 0⟩ : S42)⟩ : S44), ([] : List (S46))⟩ : S46)] : List (S46))) 1).bind fun t348 => (if t348 = true then ((reject_May.f k 2 0 1 1 0 0 false 0 1 1 0 false 0 ([] : List (S46)) 0).bind fun bt349 => (if (bt349.1 && (bt349.2.1 && (bt349.2.2))) = true then ((reject_Rejects.f k ([] : List (S46)) 1).bind fun t352 => (some (!t352))) else (none))) else (none))) = some r := H
   have A7 := Aside0.mk A70
   clear A70
   obtain ⟨y345, hy345⟩ : ∃ y_ : List (S46), y_ = (([(⟨3, 0, 0, (⟨1, 0, 0, (⟨false, 0⟩ : S42)⟩ : S44), (⟨0, 0, 0, (⟨false, 0⟩ : S42)⟩ : S44), ([] : List (S46))⟩ : S46), (⟨2, 0, 1, (⟨1, 0, 0, (⟨false, 0⟩ : S42)⟩ : S44), (⟨1, 1, 0, (⟨false, 0⟩ : S42)⟩ : S44), ([] : List (S46))⟩ : S46)] : List (S46))) := ⟨_, rfl⟩
   replace H : ((reject_Rejects.f k y345 1).bind fun t348 => (if t348 = true then ((reject_May.f k 2 0 1 1 0 0 false 0 1 1 0 false 0 ([] : List (S46)) 0).bind fun bt349 => (if (bt349.1 && (bt349.2.1 && (bt349.2.2))) = true then ((reject_Rejects.f k ([] : List (S46)) 1).bind fun t352 => (some (!t352))) else (none))) else (none))) = some r := by first | (rw [hy345]; with_reducible exact H) | (have H2_ := (Option.bind_some _ _).symm.trans H; rw [hy345]; with_reducible exact H2_) | (have H2_ := (Option.bind_some _ _).symm.trans H; with_reducible exact H2_) | with_reducible exact H | (rw [hy345]; exact H) | exact H
   have Ny345 := Aside0.mk hy345
   clear hy345
   replace H := Option.bind_eq_some_iff.mp H
   obtain ⟨t348, A80, H⟩ := H
   replace H : (if t348 = true then ((reject_May.f k 2 0 1 1 0 0 false 0 1 1 0 false 0 ([] : List (S46)) 0).bind fun bt349 => (if (bt349.1 && (bt349.2.1 && (bt349.2.2))) = true then ((reject_Rejects.f k ([] : List (S46)) 1).bind fun t352 => (some (!t352))) else (none))) else (none)) = some r := H
   have A8 := Aside0.mk A80
   clear A80
   by_cases c9 : t348 = true
   ·subst c9
    have H1 : ((reject_May.f k 2 0 1 1 0 0 false 0 1 1 0 false 0 ([] : List (S46)) 0).bind fun bt349 => (if (bt349.1 && (bt349.2.1 && (bt349.2.2))) = true then ((reject_Rejects.f k ([] : List (S46)) 1).bind fun t352 => (some (!t352))) else (none))) = some r := by rw [if_pos rfl] at H; exact H
    clear H
    have H := H1
    clear H1
    replace H := Option.bind_eq_some_iff.mp H
    obtain ⟨⟨t349, t350, t351⟩, A100, H⟩ := H
    replace H : (if (t349 && (t350 && (t351))) = true then ((reject_Rejects.f k ([] : List (S46)) 1).bind fun t352 => (some (!t352))) else (none)) = some r := H
    have A10 := Aside0.mk A100
    clear A100
    by_cases c11 : (t349 && (t350 && (t351))) = true
    ·rw [if_pos c11] at H
     have c11b0 : (t349 && (t350 && (t351))) = true := c11
     clear c11
     replace H := Option.bind_eq_some_iff.mp H
     obtain ⟨t352, A120, H⟩ := H
     replace H : (some (!t352)) = some r := H
     have A12 := Aside0.mk A120
     clear A120
     obtain rfl := Option.some.inj H
     go_enter Try.func25, Try.ntmps25
     try go_wp2_with (first | ((with_reducible refine gate_callee (f := 55) rfl ?_); refine goesL_ (some 2) rfl rfl Try.func55 (by kernel_rfl) rfl #[.int .i64 0, .int .i64 1] rfl (by (try simp only [List.map_toArray, List.map_cons, List.map_nil]); first | done | rfl | (simp only [List.length_drop, List.length_take]; rfl)) ?_; (with_reducible refine (watersmeetlaw06_Equal.calls 0 1 2 0 1 1 0 0 false 0 1 1 0 false 0 [] _ A1.out).mono ?_); rintro e w13 ⟨rfl, hb⟩; refine ⟨_, rfl, ?_⟩; replace HB := Aside0.mk (below_step (bl_ HB.out) hb); (try clear hb)) | ((with_reducible refine gate_dst (N := 1) rfl ?_); (try (refine gate_guard (by rfl) ?_; dsimp only)); refine box_event ?hg (N := 1) ?hd (cs := #[.int .i64 0, .int .i64 0, .int .i64 0, .int .i64 0, .int .i64 0, .int .i64 0, .bool false, .int .i64 0, .int .i64 0, .int .i64 0, .int .i64 0, .bool false, .int .i64 0, .slice none 0 0]) (t := 46) ?hr ?_; (case hd => rfl); (case hg => rfl); (case hr => first | (go_simp; done) | (go_simp; rfl)); intro gb276 hg w14 hbox hb; have BK276 := Aside0.mk (hbox); have GW276 := Aside0.mk ((by rw [hg]; exact (below_size (bl_ HB.out)) : w.heap.size ≤ gb276)); replace HB := Aside0.mk (below_step (bl_ HB.out) hb); have GE276 := GW276; clear hb hbox hg; have hcz15 := blk_cell BK276.out; have hfz15 := blk_frozen BK276.out; have hfz15_13 := blk_frozen BK276.out 13))
     have n0_ : Aside0 (((((((((((((((w14.setCell ⟨gb276, 0, none⟩ (.int .i64 2)).setCell ⟨gb276, 1, none⟩ (.int .i64 0)).setCell ⟨gb276, 2, none⟩ (.int .i64 1)).setCell ⟨gb276, 3, none⟩ (.int .i64 1)).setCell ⟨gb276, 4, none⟩ (.int .i64 0)).setCell ⟨gb276, 5, none⟩ (.int .i64 0)).setCell ⟨gb276, 6, none⟩ (.bool false)).setCell ⟨gb276, 7, none⟩ (.int .i64 0)).setCell ⟨gb276, 8, none⟩ (.int .i64 1)).setCell ⟨gb276, 9, none⟩ (.int .i64 1)).setCell ⟨gb276, 10, none⟩ (.int .i64 0)).setCell ⟨gb276, 11, none⟩ (.bool false)).setCell ⟨gb276, 12, none⟩ (.int .i64 0)).setCell ⟨gb276, 13, none⟩ (.slice none 0 0)).heap[gb276]? = some (.cells #[.int .i64 2, .int .i64 0, .int .i64 1, .int .i64 1, .int .i64 0, .int .i64 0, .bool false, .int .i64 0, .int .i64 1, .int .i64 1, .int .i64 0, .bool false, .int .i64 0, .slice none 0 0] 46 (0, 0))) := ⟨by (with_reducible repeat (first | refine blk_drewN ?_ _ | refine blk_drew ?_ | refine blk_alloc ?_ _)); refine blk_put (cs := #[.int .i64 2, .int .i64 0, .int .i64 1, .int .i64 1, .int .i64 0, .int .i64 0, .bool false, .int .i64 0, .int .i64 1, .int .i64 1, .int .i64 0, .bool false, .int .i64 0, .slice none 0 0]) ?_ 13 _ rfl; (with_reducible repeat (first | refine blk_drewN ?_ _ | refine blk_drew ?_ | refine blk_alloc ?_ _)); refine blk_put (cs := #[.int .i64 2, .int .i64 0, .int .i64 1, .int .i64 1, .int .i64 0, .int .i64 0, .bool false, .int .i64 0, .int .i64 1, .int .i64 1, .int .i64 0, .bool false, .int .i64 0, .slice none 0 0]) ?_ 12 _ rfl; (with_reducible repeat (first | refine blk_drewN ?_ _ | refine blk_drew ?_ | refine blk_alloc ?_ _)); refine blk_put (cs := #[.int .i64 2, .int .i64 0, .int .i64 1, .int .i64 1, .int .i64 0, .int .i64 0, .bool false, .int .i64 0, .int .i64 1, .int .i64 1, .int .i64 0, .bool false, .int .i64 0, .slice none 0 0]) ?_ 11 _ rfl; (with_reducible repeat (first | refine blk_drewN ?_ _ | refine blk_drew ?_ | refine blk_alloc ?_ _)); refine blk_put (cs := #[.int .i64 2, .int .i64 0, .int .i64 1, .int .i64 1, .int .i64 0, .int .i64 0, .bool false, .int .i64 0, .int .i64 1, .int .i64 1, .int .i64 0, .bool false, .int .i64 0, .slice none 0 0]) ?_ 10 _ rfl; (with_reducible repeat (first | refine blk_drewN ?_ _ | refine blk_drew ?_ | refine blk_alloc ?_ _)); refine blk_put (cs := #[.int .i64 2, .int .i64 0, .int .i64 1, .int .i64 1, .int .i64 0, .int .i64 0, .bool false, .int .i64 0, .int .i64 1, .int .i64 0, .int .i64 0, .bool false, .int .i64 0, .slice none 0 0]) ?_ 9 _ rfl; (with_reducible repeat (first | refine blk_drewN ?_ _ | refine blk_drew ?_ | refine blk_alloc ?_ _)); refine blk_put (cs := #[.int .i64 2, .int .i64 0, .int .i64 1, .int .i64 1, .int .i64 0, .int .i64 0, .bool false, .int .i64 0, .int .i64 0, .int .i64 0, .int .i64 0, .bool false, .int .i64 0, .slice none 0 0]) ?_ 8 _ rfl; (with_reducible repeat (first | refine blk_drewN ?_ _ | refine blk_drew ?_ | refine blk_alloc ?_ _)); refine blk_put (cs := #[.int .i64 2, .int .i64 0, .int .i64 1, .int .i64 1, .int .i64 0, .int .i64 0, .bool false, .int .i64 0, .int .i64 0, .int .i64 0, .int .i64 0, .bool false, .int .i64 0, .slice none 0 0]) ?_ 7 _ rfl; (with_reducible repeat (first | refine blk_drewN ?_ _ | refine blk_drew ?_ | refine blk_alloc ?_ _)); refine blk_put (cs := #[.int .i64 2, .int .i64 0, .int .i64 1, .int .i64 1, .int .i64 0, .int .i64 0, .bool false, .int .i64 0, .int .i64 0, .int .i64 0, .int .i64 0, .bool false, .int .i64 0, .slice none 0 0]) ?_ 6 _ rfl; (with_reducible repeat (first | refine blk_drewN ?_ _ | refine blk_drew ?_ | refine blk_alloc ?_ _)); refine blk_put (cs := #[.int .i64 2, .int .i64 0, .int .i64 1, .int .i64 1, .int .i64 0, .int .i64 0, .bool false, .int .i64 0, .int .i64 0, .int .i64 0, .int .i64 0, .bool false, .int .i64 0, .slice none 0 0]) ?_ 5 _ rfl; (with_reducible repeat (first | refine blk_drewN ?_ _ | refine blk_drew ?_ | refine blk_alloc ?_ _)); refine blk_put (cs := #[.int .i64 2, .int .i64 0, .int .i64 1, .int .i64 1, .int .i64 0, .int .i64 0, .bool false, .int .i64 0, .int .i64 0, .int .i64 0, .int .i64 0, .bool false, .int .i64 0, .slice none 0 0]) ?_ 4 _ rfl; (with_reducible repeat (first | refine blk_drewN ?_ _ | refine blk_drew ?_ | refine blk_alloc ?_ _)); refine blk_put (cs := #[.int .i64 2, .int .i64 0, .int .i64 1, .int .i64 0, .int .i64 0, .int .i64 0, .bool false, .int .i64 0, .int .i64 0, .int .i64 0, .int .i64 0, .bool false, .int .i64 0, .slice none 0 0]) ?_ 3 _ rfl; (with_reducible repeat (first | refine blk_drewN ?_ _ | refine blk_drew ?_ | refine blk_alloc ?_ _)); refine blk_put (cs := #[.int .i64 2, .int .i64 0, .int .i64 0, .int .i64 0, .int .i64 0, .int .i64 0, .bool false, .int .i64 0, .int .i64 0, .int .i64 0, .int .i64 0, .bool false, .int .i64 0, .slice none 0 0]) ?_ 2 _ rfl; (with_reducible repeat (first | refine blk_drewN ?_ _ | refine blk_drew ?_ | refine blk_alloc ?_ _)); refine blk_put (cs := #[.int .i64 2, .int .i64 0, .int .i64 0, .int .i64 0, .int .i64 0, .int .i64 0, .bool false, .int .i64 0, .int .i64 0, .int .i64 0, .int .i64 0, .bool false, .int .i64 0, .slice none 0 0]) ?_ 1 _ rfl; (with_reducible repeat (first | refine blk_drewN ?_ _ | refine blk_drew ?_ | refine blk_alloc ?_ _)); refine blk_put (cs := #[.int .i64 0, .int .i64 0, .int .i64 0, .int .i64 0, .int .i64 0, .int .i64 0, .bool false, .int .i64 0, .int .i64 0, .int .i64 0, .int .i64 0, .bool false, .int .i64 0, .slice none 0 0]) ?_ 0 _ rfl; (with_reducible repeat (first | refine blk_drewN ?_ _ | refine blk_drew ?_ | refine blk_alloc ?_ _)); exact BK276.out⟩
     have n1_ : Aside0 (Below w.heap.size w ((((((((((((((w14.setCell ⟨gb276, 0, none⟩ (.int .i64 2)).setCell ⟨gb276, 1, none⟩ (.int .i64 0)).setCell ⟨gb276, 2, none⟩ (.int .i64 1)).setCell ⟨gb276, 3, none⟩ (.int .i64 1)).setCell ⟨gb276, 4, none⟩ (.int .i64 0)).setCell ⟨gb276, 5, none⟩ (.int .i64 0)).setCell ⟨gb276, 6, none⟩ (.bool false)).setCell ⟨gb276, 7, none⟩ (.int .i64 0)).setCell ⟨gb276, 8, none⟩ (.int .i64 1)).setCell ⟨gb276, 9, none⟩ (.int .i64 1)).setCell ⟨gb276, 10, none⟩ (.int .i64 0)).setCell ⟨gb276, 11, none⟩ (.bool false)).setCell ⟨gb276, 12, none⟩ (.int .i64 0)).setCell ⟨gb276, 13, none⟩ (.slice none 0 0))) := ⟨bl1_ HB.out GE276.out⟩
     (try clear BK276)
     (try clear HB)
     generalize ((((((((((((((w14.setCell ⟨gb276, 0, none⟩ (.int .i64 2)).setCell ⟨gb276, 1, none⟩ (.int .i64 0)).setCell ⟨gb276, 2, none⟩ (.int .i64 1)).setCell ⟨gb276, 3, none⟩ (.int .i64 1)).setCell ⟨gb276, 4, none⟩ (.int .i64 0)).setCell ⟨gb276, 5, none⟩ (.int .i64 0)).setCell ⟨gb276, 6, none⟩ (.bool false)).setCell ⟨gb276, 7, none⟩ (.int .i64 0)).setCell ⟨gb276, 8, none⟩ (.int .i64 1)).setCell ⟨gb276, 9, none⟩ (.int .i64 1)).setCell ⟨gb276, 10, none⟩ (.int .i64 0)).setCell ⟨gb276, 11, none⟩ (.bool false)).setCell ⟨gb276, 12, none⟩ (.int .i64 0)).setCell ⟨gb276, 13, none⟩ (.slice none 0 0)) = w16 at n0_ n1_ ⊢
     have BK276 := n0_
     have HB := n1_
     clear n0_ n1_
     replace BK276 := Aside0.mk (blk_drew BK276.out)
     replace HB := Aside0.mk (below_drew1 HB.out)
     refine start_ (n := 26) (S := fun w' => w'.cell? ⟨gb276, 0, none⟩ = some (.int .i64 2) ∧ w'.cell? ⟨gb276, 1, none⟩ = some (.int .i64 0) ∧ w'.cell? ⟨gb276, 2, none⟩ = some (.int .i64 1) ∧ w'.cell? ⟨gb276, 3, none⟩ = some (.int .i64 1) ∧ w'.cell? ⟨gb276, 4, none⟩ = some (.int .i64 0) ∧ w'.cell? ⟨gb276, 5, none⟩ = some (.int .i64 0) ∧ w'.cell? ⟨gb276, 6, none⟩ = some (.bool false) ∧ w'.cell? ⟨gb276, 7, none⟩ = some (.int .i64 0) ∧ w'.cell? ⟨gb276, 8, none⟩ = some (.int .i64 1) ∧ w'.cell? ⟨gb276, 9, none⟩ = some (.int .i64 1) ∧ w'.cell? ⟨gb276, 10, none⟩ = some (.int .i64 0) ∧ w'.cell? ⟨gb276, 11, none⟩ = some (.bool false) ∧ w'.cell? ⟨gb276, 12, none⟩ = some (.int .i64 0) ∧ w'.cell? ⟨gb276, 13, none⟩ = some (.slice none 0 0)) (ds := []) #[false, false, false, false, false, false, false, false, false, false, false, false, false, false, false, false, false, false, false, false, false, false, false, false, false, false] (by kernel_rfl) rfl rfl ⟨(blk_cell BK276.out 0).trans rfl, (blk_cell BK276.out 1).trans rfl, (blk_cell BK276.out 2).trans rfl, (blk_cell BK276.out 3).trans rfl, (blk_cell BK276.out 4).trans rfl, (blk_cell BK276.out 5).trans rfl, (blk_cell BK276.out 6).trans rfl, (blk_cell BK276.out 7).trans rfl, (blk_cell BK276.out 8).trans rfl, (blk_cell BK276.out 9).trans rfl, (blk_cell BK276.out 10).trans rfl, (blk_cell BK276.out 11).trans rfl, (blk_cell BK276.out 12).trans rfl, (blk_cell BK276.out 13).trans rfl⟩ (fun hHeld => ?_); refine with_tabW watersmeetlaw07_awake.tab2 watersmeetlaw07_awake.bits2 (fun HT_ HW_ => ?_)
     generalize w16.drew = w17 at BK276 HB hHeld ⊢
     refine take_ (i := 0) (N := some 3) (v := ?_) (a' := ?_) #[true, false, false, false, false, false, false, false, false, false, false, false, false, false, false, false, false, false, false, false, false, false, false, false, false, false] rfl rfl (take_ofW HT_.out HW_.out (by kernel_rfl)) (fun _ _ _ h => h) (Or.inl ⟨by rfl, ?_⟩) hHeld ?_ ?_
     rotate_left
     ·rintro w' ⟨s0, s1, s2, s3, s4, s5, s6, s7, s8, s9, s10, s11, s12, s13⟩
      go_simp
      with_reducible rfl
     rotate_left
     ·simp only [Act.put, List.setIfInBounds_toArray, List.set_cons_zero, List.set_cons_succ, i64_w, i32_w]
      rfl
     refine one_ (i := 1) (N := some 4) #[true, true, false, false, false, false, false, false, false, false, false, false, false, false, false, false, false, false, false, false, false, false, false, false, false, false] rfl rfl (one_of HT_.out (by kernel_rfl)) (by decide) (fun K hK => ?_)
     refine Kd.R_lit_step k46 _ 46 ?hg (N := 4) ?hd (xs := ([(⟨2, 0, 1, (⟨1, 0, 0, (⟨false, 0⟩ : S42)⟩ : S44), (⟨1, 1, 0, (⟨false, 0⟩ : S42)⟩ : S44), ([] : List (S46))⟩ : S46)] : List (S46))) (inner := [.int .i64 2, .int .i64 0, .int .i64 1, .int .i64 1, .int .i64 0, .int .i64 0, .bool false, .int .i64 0, .int .i64 1, .int .i64 1, .int .i64 0, .bool false, .int .i64 0, .slice none 0 0]) (ok := fun _ => True) (okp := fun _ => True) ?hr ?hp (fun _ hk => hk) trivial (Below.refl _ _) (Nat.le_refl _) (by simp) ?_; (case hd => rfl); (case hg => rfl); (case hr => first | (go_simp; done) | (go_simp; rfl)); (case hp => exact (Reps.front (show Kd.M k46 _ _ _ (⟨2, 0, 1, (⟨1, 0, 0, (⟨false, 0⟩ : S42)⟩ : S44), (⟨1, 1, 0, (⟨false, 0⟩ : S42)⟩ : S44), ([] : List (S46))⟩ : S46) [.int .i64 2, .int .i64 0, .int .i64 1, .int .i64 1, .int .i64 0, .int .i64 0, .bool false, .int .i64 0, .int .i64 1, .int .i64 1, .int .i64 0, .bool false, .int .i64 0, .slice none 0 0] from (k46_mkM _ _ _ (⟨2, 0, 1, (⟨1, 0, 0, (⟨false, 0⟩ : S42)⟩ : S44), (⟨1, 1, 0, (⟨false, 0⟩ : S42)⟩ : S44), ([] : List (S46))⟩ : S46) (Kd.R_nil _ _ _ _ _))) rfl (Reps.none _ _) rfl))
     intro v278 w18 ho19 hb hg_ hnew_
     clear hg_ hnew_
     (first | rw [← Ny277.out] at ho19 | (simp only [Int.reduceToNat] at ho19; rw [← Ny277.out] at ho19))
     have HO279 := Aside0.mk (Kd.R_lower (Kd.R_newB ho19 (g := gb276) (o := .cells #[.int .i64 2, .int .i64 0, .int .i64 1, .int .i64 1, .int .i64 0, .int .i64 0, .bool false, .int .i64 0, .int .i64 1, .int .i64 1, .int .i64 0, .bool false, .int .i64 0, .slice none 0 0] 46 (0, 0)) (bk_ BK276.out)) (below_size (bl1_ HB.out GE276.out)))
     replace BK276 := Aside0.mk (blk_below (bk_ BK276.out) hb)
     replace HB := Aside0.mk (below_step (bl1_ HB.out GE276.out) hb)
     clear hb ho19
     obtain ⟨Ao20, co20, eo20⟩ := Kd.R_slice HO279.out
     (first | subst eo20 | (injection eo20 with f1_ f2_ f3_; have f4_ := f1_.symm; have f5_ := f3_.symm; clear f1_ f2_ f3_; subst f4_; subst f5_))
     refine hK.out _ _ ⟨(blk_cell BK276.out 0).trans rfl, (blk_cell BK276.out 1).trans rfl, (blk_cell BK276.out 2).trans rfl, (blk_cell BK276.out 3).trans rfl, (blk_cell BK276.out 4).trans rfl, (blk_cell BK276.out 5).trans rfl, (blk_cell BK276.out 6).trans rfl, (blk_cell BK276.out 7).trans rfl, (blk_cell BK276.out 8).trans rfl, (blk_cell BK276.out 9).trans rfl, (blk_cell BK276.out 10).trans rfl, (blk_cell BK276.out 11).trans rfl, (blk_cell BK276.out 12).trans rfl, (blk_cell BK276.out 13).trans rfl⟩ (fun hHeld => ?_)
     clear hK K
     refine norm_ (a' := ?_) ?_ ?_
     rotate_left
     ·show Act.put _ (some 4) _ = _
      simp only [Act.put, List.setIfInBounds_toArray, List.set_cons_zero, List.set_cons_succ, i64_w, i32_w]
      rfl
     refine one_ (i := 2) (N := some 5) #[true, true, true, false, false, false, false, false, false, false, false, false, false, false, false, false, false, false, false, false, false, false, false, false, false, false] rfl rfl (one_of HT_.out (by kernel_rfl)) (by decide) (fun K hK => ?_)
     refine goes_ Try.func28 (by kernel_rfl) rfl #[.slice Ao20 y277.length co20, .int .u64 1] (by rfl) rfl rfl (by (try simp only [List.map_toArray, List.map_cons, List.map_nil]); first | done | rfl | (simp only [List.length_drop, List.length_take]; rfl)) ?_
     with_reducible refine (reject_Rejects.calls k _ _ y277 1 true _ ?side1 ?side2 A2.out).mono ?_
     (case side1 => exact cd_ ((Kd.R_reads' HO279.out).2.2))
     (case side2 => exact (Kd.R_reads' HO279.out).2.1)
     rintro e w21 ⟨rfl, hb⟩
     refine ⟨_, rfl, ?_⟩
     replace HO279 := Aside0.mk (Kd.R_below (rd_ HO279.out) hb)
     replace BK276 := Aside0.mk (blk_below (bk_ BK276.out) hb)
     replace HB := Aside0.mk (below_step (bl1_ HB.out GE276.out) hb)
     (try clear hb)
     (try clear hb2)
     (try clear hk)
     (try clear hi)
     refine hK.out _ _ ⟨(blk_cell BK276.out 0).trans rfl, (blk_cell BK276.out 1).trans rfl, (blk_cell BK276.out 2).trans rfl, (blk_cell BK276.out 3).trans rfl, (blk_cell BK276.out 4).trans rfl, (blk_cell BK276.out 5).trans rfl, (blk_cell BK276.out 6).trans rfl, (blk_cell BK276.out 7).trans rfl, (blk_cell BK276.out 8).trans rfl, (blk_cell BK276.out 9).trans rfl, (blk_cell BK276.out 10).trans rfl, (blk_cell BK276.out 11).trans rfl, (blk_cell BK276.out 12).trans rfl, (blk_cell BK276.out 13).trans rfl⟩ (fun hHeld => ?_)
     clear hK K
     refine norm_ (a' := ?_) ?_ ?_
     rotate_left
     ·show Act.put _ (some 5) _ = _
      simp only [Act.put, List.setIfInBounds_toArray, List.set_cons_zero, List.set_cons_succ, i64_w, i32_w]
      rfl
     refine pure_ (i := 3) (N := some 6) (v := ?_) (a' := ?_) #[true, true, true, true, false, false, false, false, false, false, false, false, false, false, false, false, false, false, false, false, false, false, false, false, false, false] rfl rfl (any_of HT_.out (by kernel_rfl)) (fun _ _ _ h => h) (Or.inl ⟨by rfl, ?_⟩) ?_ ?_
     rotate_left
     ·intro w'
      go_simp
      with_reducible rfl
     rotate_left
     ·simp only [Act.put, List.setIfInBounds_toArray, List.set_cons_zero, List.set_cons_succ, i64_w, i32_w]
      rfl
     refine one_ (i := 4) (N := some 7) #[true, true, true, true, true, false, false, false, false, false, false, false, false, false, false, false, false, false, false, false, false, false, false, false, false, false] rfl rfl (one_of HT_.out (by kernel_rfl)) (by decide) (fun K hK => ?_)
     refine goes_ Try.func56 (by kernel_rfl) rfl #[.int .i64 0] (by rfl) rfl rfl (by (try simp only [List.map_toArray, List.map_cons, List.map_nil]); first | done | rfl | (simp only [List.length_drop, List.length_take]; rfl)) ?_
     with_reducible refine (watersmeetlaw07_isNull.calls 0 3 0 0 1 0 0 false 0 0 0 0 false 0 [] _ A4.out).mono ?_
     rintro e w22 ⟨rfl, hb⟩
     refine ⟨_, rfl, ?_⟩
     replace HO279 := Aside0.mk (Kd.R_below (rd_ HO279.out) hb)
     replace BK276 := Aside0.mk (blk_below (bk_ BK276.out) hb)
     replace HB := Aside0.mk (below_step (bl1_ HB.out GE276.out) hb)
     (try clear hb)
     (try clear hb2)
     (try clear hk)
     (try clear hi)
     refine hK.out _ _ ⟨(blk_cell BK276.out 0).trans rfl, (blk_cell BK276.out 1).trans rfl, (blk_cell BK276.out 2).trans rfl, (blk_cell BK276.out 3).trans rfl, (blk_cell BK276.out 4).trans rfl, (blk_cell BK276.out 5).trans rfl, (blk_cell BK276.out 6).trans rfl, (blk_cell BK276.out 7).trans rfl, (blk_cell BK276.out 8).trans rfl, (blk_cell BK276.out 9).trans rfl, (blk_cell BK276.out 10).trans rfl, (blk_cell BK276.out 11).trans rfl, (blk_cell BK276.out 12).trans rfl, (blk_cell BK276.out 13).trans rfl⟩ (fun hHeld => ?_)
     clear hK K
     refine norm_ (a' := ?_) ?_ ?_
     rotate_left
     ·show Act.put _ (some 7) _ = _
      simp only [Act.put, List.setIfInBounds_toArray, List.set_cons_zero, List.set_cons_succ, i64_w, i32_w]
      rfl
     refine one_ (i := 5) (N := some 8) #[true, true, true, true, true, true, false, false, false, false, false, false, false, false, false, false, false, false, false, false, false, false, false, false, false, false] rfl rfl (one_of HT_.out (by kernel_rfl)) (by decide) (fun K hK => ?_)
     refine Kd.R_lit_step k46 _ 46 ?hg (N := 8) ?hd (xs := ([(⟨3, 0, 0, (⟨1, 0, 0, (⟨false, 0⟩ : S42)⟩ : S44), (⟨0, 0, 0, (⟨false, 0⟩ : S42)⟩ : S44), ([] : List (S46))⟩ : S46)] : List (S46))) (inner := [.int .i64 3, .int .i64 0, .int .i64 0, .int .i64 1, .int .i64 0, .int .i64 0, .bool false, .int .i64 0, .int .i64 0, .int .i64 0, .int .i64 0, .bool false, .int .i64 0, .slice none 0 0]) (ok := fun _ => True) (okp := fun _ => True) ?hr ?hp (fun _ hk => hk) trivial (Below.refl _ _) (Nat.le_refl _) (by simp) ?_; (case hd => rfl); (case hg => rfl); (case hr => first | (go_simp; done) | (go_simp; rfl)); (case hp => exact (Reps.front (show Kd.M k46 _ _ _ (⟨3, 0, 0, (⟨1, 0, 0, (⟨false, 0⟩ : S42)⟩ : S44), (⟨0, 0, 0, (⟨false, 0⟩ : S42)⟩ : S44), ([] : List (S46))⟩ : S46) [.int .i64 3, .int .i64 0, .int .i64 0, .int .i64 1, .int .i64 0, .int .i64 0, .bool false, .int .i64 0, .int .i64 0, .int .i64 0, .int .i64 0, .bool false, .int .i64 0, .slice none 0 0] from (k46_mkM _ _ _ (⟨3, 0, 0, (⟨1, 0, 0, (⟨false, 0⟩ : S42)⟩ : S44), (⟨0, 0, 0, (⟨false, 0⟩ : S42)⟩ : S44), ([] : List (S46))⟩ : S46) (Kd.R_nil _ _ _ _ _))) rfl (Reps.none _ _) rfl))
     intro v312 w23 ho24 hb hg_ hnew_
     clear hg_ hnew_
     (first | rw [← Ny311.out] at ho24 | (simp only [Int.reduceToNat] at ho24; rw [← Ny311.out] at ho24))
     have HO313 := Aside0.mk (Kd.R_lower (Kd.R_newB (Kd.R_new' ho24 (Kd.R_lt (rd_ HO279.out))) (g := gb276) (o := .cells #[.int .i64 2, .int .i64 0, .int .i64 1, .int .i64 1, .int .i64 0, .int .i64 0, .bool false, .int .i64 0, .int .i64 1, .int .i64 1, .int .i64 0, .bool false, .int .i64 0, .slice none 0 0] 46 (0, 0)) (bk_ BK276.out)) (below_size (bl1_ HB.out GE276.out)))
     replace HO279 := Aside0.mk (Kd.R_elder' (rd_ HO279.out) (Kd.R_base ho24) hb)
     replace BK276 := Aside0.mk (blk_below (bk_ BK276.out) hb)
     replace HB := Aside0.mk (below_step (bl1_ HB.out GE276.out) hb)
     clear hb ho24
     obtain ⟨Ao25, co25, eo25⟩ := Kd.R_slice HO313.out
     (first | subst eo25 | (injection eo25 with f1_ f2_ f3_; have f4_ := f1_.symm; have f5_ := f3_.symm; clear f1_ f2_ f3_; subst f4_; subst f5_))
     refine hK.out _ _ ⟨(blk_cell BK276.out 0).trans rfl, (blk_cell BK276.out 1).trans rfl, (blk_cell BK276.out 2).trans rfl, (blk_cell BK276.out 3).trans rfl, (blk_cell BK276.out 4).trans rfl, (blk_cell BK276.out 5).trans rfl, (blk_cell BK276.out 6).trans rfl, (blk_cell BK276.out 7).trans rfl, (blk_cell BK276.out 8).trans rfl, (blk_cell BK276.out 9).trans rfl, (blk_cell BK276.out 10).trans rfl, (blk_cell BK276.out 11).trans rfl, (blk_cell BK276.out 12).trans rfl, (blk_cell BK276.out 13).trans rfl⟩ (fun hHeld => ?_)
     clear hK K
     refine norm_ (a' := ?_) ?_ ?_
     rotate_left
     ·show Act.put _ (some 8) _ = _
      simp only [Act.put, List.setIfInBounds_toArray, List.set_cons_zero, List.set_cons_succ, i64_w, i32_w]
      rfl
     refine one_ (i := 6) (N := some 9) #[true, true, true, true, true, true, true, false, false, false, false, false, false, false, false, false, false, false, false, false, false, false, false, false, false, false] rfl rfl (one_of HT_.out (by kernel_rfl)) (by decide) (fun K hK => ?_)
     refine goes_ Try.func28 (by kernel_rfl) rfl #[.slice Ao25 y311.length co25, .int .u64 1] (by rfl) rfl rfl (by (try simp only [List.map_toArray, List.map_cons, List.map_nil]); first | done | rfl | (simp only [List.length_drop, List.length_take]; rfl)) ?_
     with_reducible refine (reject_Rejects.calls k _ _ y311 1 false _ ?side1 ?side2 A5.out).mono ?_
     (case side1 => exact cd_ ((Kd.R_reads' HO313.out).2.2))
     (case side2 => exact (Kd.R_reads' HO313.out).2.1)
     rintro e w26 ⟨rfl, hb⟩
     refine ⟨_, rfl, ?_⟩
     replace HO279 := Aside0.mk (Kd.R_below (rd_ HO279.out) hb)
     replace HO313 := Aside0.mk (Kd.R_below (rd_ HO313.out) hb)
     replace BK276 := Aside0.mk (blk_below (bk_ BK276.out) hb)
     replace HB := Aside0.mk (below_step (bl1_ HB.out GE276.out) hb)
     (try clear hb)
     (try clear hb2)
     (try clear hk)
     (try clear hi)
     refine hK.out _ _ ⟨(blk_cell BK276.out 0).trans rfl, (blk_cell BK276.out 1).trans rfl, (blk_cell BK276.out 2).trans rfl, (blk_cell BK276.out 3).trans rfl, (blk_cell BK276.out 4).trans rfl, (blk_cell BK276.out 5).trans rfl, (blk_cell BK276.out 6).trans rfl, (blk_cell BK276.out 7).trans rfl, (blk_cell BK276.out 8).trans rfl, (blk_cell BK276.out 9).trans rfl, (blk_cell BK276.out 10).trans rfl, (blk_cell BK276.out 11).trans rfl, (blk_cell BK276.out 12).trans rfl, (blk_cell BK276.out 13).trans rfl⟩ (fun hHeld => ?_)
     clear hK K
     refine norm_ (a' := ?_) ?_ ?_
     rotate_left
     ·show Act.put _ (some 9) _ = _
      simp only [Act.put, List.setIfInBounds_toArray, List.set_cons_zero, List.set_cons_succ, i64_w, i32_w]
      rfl
     refine pure_ (i := 7) (N := some 10) (v := ?_) (a' := ?_) #[true, true, true, true, true, true, true, true, false, false, false, false, false, false, false, false, false, false, false, false, false, false, false, false, false, false] rfl rfl (any_of HT_.out (by kernel_rfl)) (fun _ _ _ h => h) (Or.inl ⟨by rfl, ?_⟩) ?_ ?_
     rotate_left
     ·intro w'
      go_simp
      with_reducible rfl
     rotate_left
     ·simp only [Act.put, List.setIfInBounds_toArray, List.set_cons_zero, List.set_cons_succ, i64_w, i32_w]
      rfl
     refine pure_ (i := 8) (N := some 11) (v := ?_) (a' := ?_) #[true, true, true, true, true, true, true, true, true, false, false, false, false, false, false, false, false, false, false, false, false, false, false, false, false, false] rfl rfl (any_of HT_.out (by kernel_rfl)) (fun _ _ _ h => h) (Or.inl ⟨by rfl, ?_⟩) ?_ ?_
     rotate_left
     ·intro w'
      go_simp
      with_reducible rfl
     rotate_left
     ·simp only [Act.put, List.setIfInBounds_toArray, List.set_cons_zero, List.set_cons_succ, i64_w, i32_w]
      rfl
     refine pure_ (i := 9) (N := some 12) (v := ?_) (a' := ?_) #[true, true, true, true, true, true, true, true, true, true, false, false, false, false, false, false, false, false, false, false, false, false, false, false, false, false] rfl rfl (any_of HT_.out (by kernel_rfl)) (fun _ _ _ h => h) (Or.inl ⟨by rfl, ?_⟩) ?_ ?_
     rotate_left
     ·intro w'
      go_simp
      with_reducible rfl
     rotate_left
     ·simp only [Act.put, List.setIfInBounds_toArray, List.set_cons_zero, List.set_cons_succ, i64_w, i32_w]
      rfl
     refine take_ (i := 11) (N := some 14) (v := ?_) (a' := ?_) #[true, true, true, true, true, true, true, true, true, true, false, true, false, false, false, false, false, false, false, false, false, false, false, false, false, false] rfl rfl (take_ofW HT_.out HW_.out (by kernel_rfl)) (fun _ _ _ h => h) (Or.inl ⟨by rfl, ?_⟩) hHeld ?_ ?_
     rotate_left
     ·rintro w' ⟨s0, s1, s2, s3, s4, s5, s6, s7, s8, s9, s10, s11, s12, s13⟩
      go_simp
      with_reducible rfl
     rotate_left
     ·simp only [Act.put, List.setIfInBounds_toArray, List.set_cons_zero, List.set_cons_succ, i64_w, i32_w]
      rfl
     refine one_ (i := 10) (N := some 13) #[true, true, true, true, true, true, true, true, true, true, true, true, false, false, false, false, false, false, false, false, false, false, false, false, false, false] rfl rfl (one_of HT_.out (by kernel_rfl)) (by decide) (fun K hK => ?_)
     refine goes_ Try.func56 (by kernel_rfl) rfl #[.int .i64 0] (by rfl) rfl rfl (by (try simp only [List.map_toArray, List.map_cons, List.map_nil]); first | done | rfl | (simp only [List.length_drop, List.length_take]; rfl)) ?_
     with_reducible refine (watersmeetlaw07_isNull.calls 0 3 0 0 1 0 0 false 0 0 0 0 false 0 [] _ A7.out).mono ?_
     rintro e w27 ⟨rfl, hb⟩
     refine ⟨_, rfl, ?_⟩
     replace HO279 := Aside0.mk (Kd.R_below (rd_ HO279.out) hb)
     replace HO313 := Aside0.mk (Kd.R_below (rd_ HO313.out) hb)
     replace BK276 := Aside0.mk (blk_below (bk_ BK276.out) hb)
     replace HB := Aside0.mk (below_step (bl1_ HB.out GE276.out) hb)
     (try clear hb)
     (try clear hb2)
     (try clear hk)
     (try clear hi)
     refine hK.out _ _ ⟨(blk_cell BK276.out 0).trans rfl, (blk_cell BK276.out 1).trans rfl, (blk_cell BK276.out 2).trans rfl, (blk_cell BK276.out 3).trans rfl, (blk_cell BK276.out 4).trans rfl, (blk_cell BK276.out 5).trans rfl, (blk_cell BK276.out 6).trans rfl, (blk_cell BK276.out 7).trans rfl, (blk_cell BK276.out 8).trans rfl, (blk_cell BK276.out 9).trans rfl, (blk_cell BK276.out 10).trans rfl, (blk_cell BK276.out 11).trans rfl, (blk_cell BK276.out 12).trans rfl, (blk_cell BK276.out 13).trans rfl⟩ (fun hHeld => ?_)
     clear hK K
     refine norm_ (a' := ?_) ?_ ?_
     rotate_left
     ·show Act.put _ (some 13) _ = _
      simp only [Act.put, List.setIfInBounds_toArray, List.set_cons_zero, List.set_cons_succ, i64_w, i32_w]
      rfl
     refine one_ (i := 12) (N := some 15) #[true, true, true, true, true, true, true, true, true, true, true, true, true, false, false, false, false, false, false, false, false, false, false, false, false, false] rfl rfl (one_of HT_.out (by kernel_rfl)) (by decide) (fun K hK => ?_)
     refine Kd.R_lit_step k46 _ 46 ?hg (N := 15) ?hd (xs := ([(⟨3, 0, 0, (⟨1, 0, 0, (⟨false, 0⟩ : S42)⟩ : S44), (⟨0, 0, 0, (⟨false, 0⟩ : S42)⟩ : S44), ([] : List (S46))⟩ : S46), (⟨2, 0, 1, (⟨1, 0, 0, (⟨false, 0⟩ : S42)⟩ : S44), (⟨1, 1, 0, (⟨false, 0⟩ : S42)⟩ : S44), ([] : List (S46))⟩ : S46)] : List (S46))) (inner := [.int .i64 3, .int .i64 0, .int .i64 0, .int .i64 1, .int .i64 0, .int .i64 0, .bool false, .int .i64 0, .int .i64 0, .int .i64 0, .int .i64 0, .bool false, .int .i64 0, .slice none 0 0, .int .i64 2, .int .i64 0, .int .i64 1, .int .i64 1, .int .i64 0, .int .i64 0, .bool false, .int .i64 0, .int .i64 1, .int .i64 1, .int .i64 0, .bool false, .int .i64 0, .slice none 0 0]) (ok := fun _ => True) (okp := fun _ => True) ?hr ?hp (fun _ hk => hk) trivial (Below.refl _ _) (Nat.le_refl _) (by simp) ?_; (case hd => rfl); (case hg => rfl); (case hr => first | (go_simp; done) | (go_simp; rfl)); (case hp => exact (Reps.front (show Kd.M k46 _ _ _ (⟨3, 0, 0, (⟨1, 0, 0, (⟨false, 0⟩ : S42)⟩ : S44), (⟨0, 0, 0, (⟨false, 0⟩ : S42)⟩ : S44), ([] : List (S46))⟩ : S46) [.int .i64 3, .int .i64 0, .int .i64 0, .int .i64 1, .int .i64 0, .int .i64 0, .bool false, .int .i64 0, .int .i64 0, .int .i64 0, .int .i64 0, .bool false, .int .i64 0, .slice none 0 0] from (k46_mkM _ _ _ (⟨3, 0, 0, (⟨1, 0, 0, (⟨false, 0⟩ : S42)⟩ : S44), (⟨0, 0, 0, (⟨false, 0⟩ : S42)⟩ : S44), ([] : List (S46))⟩ : S46) (Kd.R_nil _ _ _ _ _))) rfl (Reps.front (show Kd.M k46 _ _ _ (⟨2, 0, 1, (⟨1, 0, 0, (⟨false, 0⟩ : S42)⟩ : S44), (⟨1, 1, 0, (⟨false, 0⟩ : S42)⟩ : S44), ([] : List (S46))⟩ : S46) [.int .i64 2, .int .i64 0, .int .i64 1, .int .i64 1, .int .i64 0, .int .i64 0, .bool false, .int .i64 0, .int .i64 1, .int .i64 1, .int .i64 0, .bool false, .int .i64 0, .slice none 0 0] from (k46_mkM _ _ _ (⟨2, 0, 1, (⟨1, 0, 0, (⟨false, 0⟩ : S42)⟩ : S44), (⟨1, 1, 0, (⟨false, 0⟩ : S42)⟩ : S44), ([] : List (S46))⟩ : S46) (Kd.R_nil _ _ _ _ _))) rfl (Reps.none _ _) rfl) rfl))
     intro v346 w28 ho29 hb hg_ hnew_
     clear hg_ hnew_
     (first | rw [← Ny345.out] at ho29 | (simp only [Int.reduceToNat] at ho29; rw [← Ny345.out] at ho29))
     have HO347 := Aside0.mk (Kd.R_lower (Kd.R_newB (Kd.R_new' (Kd.R_new' ho29 (Kd.R_lt (rd_ HO279.out))) (Kd.R_lt (rd_ HO313.out))) (g := gb276) (o := .cells #[.int .i64 2, .int .i64 0, .int .i64 1, .int .i64 1, .int .i64 0, .int .i64 0, .bool false, .int .i64 0, .int .i64 1, .int .i64 1, .int .i64 0, .bool false, .int .i64 0, .slice none 0 0] 46 (0, 0)) (bk_ BK276.out)) (below_size (bl1_ HB.out GE276.out)))
     replace HO279 := Aside0.mk (Kd.R_elder' (rd_ HO279.out) (Kd.R_base ho29) hb)
     replace HO313 := Aside0.mk (Kd.R_elder' (rd_ HO313.out) (Kd.R_base ho29) hb)
     replace BK276 := Aside0.mk (blk_below (bk_ BK276.out) hb)
     replace HB := Aside0.mk (below_step (bl1_ HB.out GE276.out) hb)
     clear hb ho29
     obtain ⟨Ao30, co30, eo30⟩ := Kd.R_slice HO347.out
     (first | subst eo30 | (injection eo30 with f1_ f2_ f3_; have f4_ := f1_.symm; have f5_ := f3_.symm; clear f1_ f2_ f3_; subst f4_; subst f5_))
     refine hK.out _ _ ⟨(blk_cell BK276.out 0).trans rfl, (blk_cell BK276.out 1).trans rfl, (blk_cell BK276.out 2).trans rfl, (blk_cell BK276.out 3).trans rfl, (blk_cell BK276.out 4).trans rfl, (blk_cell BK276.out 5).trans rfl, (blk_cell BK276.out 6).trans rfl, (blk_cell BK276.out 7).trans rfl, (blk_cell BK276.out 8).trans rfl, (blk_cell BK276.out 9).trans rfl, (blk_cell BK276.out 10).trans rfl, (blk_cell BK276.out 11).trans rfl, (blk_cell BK276.out 12).trans rfl, (blk_cell BK276.out 13).trans rfl⟩ (fun hHeld => ?_)
     clear hK K
     refine norm_ (a' := ?_) ?_ ?_
     rotate_left
     ·show Act.put _ (some 15) _ = _
      simp only [Act.put, List.setIfInBounds_toArray, List.set_cons_zero, List.set_cons_succ, i64_w, i32_w]
      rfl
     refine one_ (i := 13) (N := some 16) #[true, true, true, true, true, true, true, true, true, true, true, true, true, true, false, false, false, false, false, false, false, false, false, false, false, false] rfl rfl (one_of HT_.out (by kernel_rfl)) (by decide) (fun K hK => ?_)
     refine goes_ Try.func28 (by kernel_rfl) rfl #[.slice Ao30 y345.length co30, .int .u64 1] (by rfl) rfl rfl (by (try simp only [List.map_toArray, List.map_cons, List.map_nil]); first | done | rfl | (simp only [List.length_drop, List.length_take]; rfl)) ?_
     with_reducible refine (reject_Rejects.calls k _ _ y345 1 true _ ?side1 ?side2 A8.out).mono ?_
     (case side1 => exact cd_ ((Kd.R_reads' HO347.out).2.2))
     (case side2 => exact (Kd.R_reads' HO347.out).2.1)
     rintro e w31 ⟨rfl, hb⟩
     refine ⟨_, rfl, ?_⟩
     replace HO279 := Aside0.mk (Kd.R_below (rd_ HO279.out) hb)
     replace HO313 := Aside0.mk (Kd.R_below (rd_ HO313.out) hb)
     replace HO347 := Aside0.mk (Kd.R_below (rd_ HO347.out) hb)
     replace BK276 := Aside0.mk (blk_below (bk_ BK276.out) hb)
     replace HB := Aside0.mk (below_step (bl1_ HB.out GE276.out) hb)
     (try clear hb)
     (try clear hb2)
     (try clear hk)
     (try clear hi)
     refine hK.out _ _ ⟨(blk_cell BK276.out 0).trans rfl, (blk_cell BK276.out 1).trans rfl, (blk_cell BK276.out 2).trans rfl, (blk_cell BK276.out 3).trans rfl, (blk_cell BK276.out 4).trans rfl, (blk_cell BK276.out 5).trans rfl, (blk_cell BK276.out 6).trans rfl, (blk_cell BK276.out 7).trans rfl, (blk_cell BK276.out 8).trans rfl, (blk_cell BK276.out 9).trans rfl, (blk_cell BK276.out 10).trans rfl, (blk_cell BK276.out 11).trans rfl, (blk_cell BK276.out 12).trans rfl, (blk_cell BK276.out 13).trans rfl⟩ (fun hHeld => ?_)
     clear hK K
     refine norm_ (a' := ?_) ?_ ?_
     rotate_left
     ·show Act.put _ (some 16) _ = _
      simp only [Act.put, List.setIfInBounds_toArray, List.set_cons_zero, List.set_cons_succ, i64_w, i32_w]
      rfl
     refine pure_ (i := 14) (N := some 17) (v := ?_) (a' := ?_) #[true, true, true, true, true, true, true, true, true, true, true, true, true, true, true, false, false, false, false, false, false, false, false, false, false, false] rfl rfl (any_of HT_.out (by kernel_rfl)) (fun _ _ _ h => h) (Or.inl ⟨by rfl, ?_⟩) ?_ ?_
     rotate_left
     ·intro w'
      go_simp
      with_reducible rfl
     rotate_left
     ·simp only [Act.put, List.setIfInBounds_toArray, List.set_cons_zero, List.set_cons_succ, i64_w, i32_w]
      rfl
     refine pure_ (i := 15) (N := some 18) (v := ?_) (a' := ?_) #[true, true, true, true, true, true, true, true, true, true, true, true, true, true, true, true, false, false, false, false, false, false, false, false, false, false] rfl rfl (any_of HT_.out (by kernel_rfl)) (fun _ _ _ h => h) (Or.inl ⟨by rfl, ?_⟩) ?_ ?_
     rotate_left
     ·intro w'
      go_simp
      with_reducible rfl
     rotate_left
     ·simp only [Act.put, List.setIfInBounds_toArray, List.set_cons_zero, List.set_cons_succ, i64_w, i32_w]
      rfl
     refine pure_ (i := 18) (N := some 21) (v := ?_) (a' := ?_) #[true, true, true, true, true, true, true, true, true, true, true, true, true, true, true, true, false, false, true, false, false, false, false, false, false, false] rfl rfl (any_of HT_.out (by kernel_rfl)) (fun _ _ _ h => h) (Or.inl ⟨by rfl, ?_⟩) ?_ ?_
     rotate_left
     ·intro w'
      go_simp
      with_reducible rfl
     rotate_left
     ·simp only [Act.put, List.setIfInBounds_toArray, List.set_cons_zero, List.set_cons_succ, i64_w, i32_w]
      rfl
     refine take_ (i := 16) (N := some 19) (v := ?_) (a' := ?_) #[true, true, true, true, true, true, true, true, true, true, true, true, true, true, true, true, true, false, true, false, false, false, false, false, false, false] rfl rfl (take_ofW HT_.out HW_.out (by kernel_rfl)) (fun _ _ _ h => h) (Or.inl ⟨by rfl, ?_⟩) hHeld ?_ ?_
     rotate_left
     ·rintro w' ⟨s0, s1, s2, s3, s4, s5, s6, s7, s8, s9, s10, s11, s12, s13⟩
      go_simp
      with_reducible rfl
     rotate_left
     ·simp only [Act.put, List.setIfInBounds_toArray, List.set_cons_zero, List.set_cons_succ, i64_w, i32_w]
      rfl
     refine one_ (i := 17) (N := some 20) #[true, true, true, true, true, true, true, true, true, true, true, true, true, true, true, true, true, true, true, false, false, false, false, false, false, false] rfl rfl (one_of HT_.out (by kernel_rfl)) (by decide) (fun K hK => ?_)
     refine goes_ Try.func26 (by kernel_rfl) rfl #[.agg #[.int .i64 2, .int .i64 0, .int .i64 1, .int .i64 1, .int .i64 0, .int .i64 0, .bool false, .int .i64 0, .int .i64 1, .int .i64 1, .int .i64 0, .bool false, .int .i64 0, .slice none 0 0], .int .u64 0] (by rfl) rfl rfl (by (try simp only [List.map_toArray, List.map_cons, List.map_nil]); first | done | rfl | (simp only [List.length_drop, List.length_take]; rfl)) ?_
     refine (reject_May.calls k 2 0 1 1 0 0 false 0 1 1 0 false 0 _ _ ([] : List (S46)) 0 t349 t350 t351 _ ?side1 ?side2 A10.out).mono ?_
     (case side1 => exact Kd.C_nil _ _)
     (case side2 => exact Nat.le_refl _)
     rintro e w32 ⟨rfl, hb⟩
     refine ⟨_, rfl, ?_⟩
     replace HO279 := Aside0.mk (Kd.R_below (rd_ HO279.out) hb)
     replace HO313 := Aside0.mk (Kd.R_below (rd_ HO313.out) hb)
     replace HO347 := Aside0.mk (Kd.R_below (rd_ HO347.out) hb)
     replace BK276 := Aside0.mk (blk_below (bk_ BK276.out) hb)
     replace HB := Aside0.mk (below_step (bl1_ HB.out GE276.out) hb)
     (try clear hb)
     (try clear hb2)
     (try clear hk)
     (try clear hi)
     refine hK.out _ _ ⟨(blk_cell BK276.out 0).trans rfl, (blk_cell BK276.out 1).trans rfl, (blk_cell BK276.out 2).trans rfl, (blk_cell BK276.out 3).trans rfl, (blk_cell BK276.out 4).trans rfl, (blk_cell BK276.out 5).trans rfl, (blk_cell BK276.out 6).trans rfl, (blk_cell BK276.out 7).trans rfl, (blk_cell BK276.out 8).trans rfl, (blk_cell BK276.out 9).trans rfl, (blk_cell BK276.out 10).trans rfl, (blk_cell BK276.out 11).trans rfl, (blk_cell BK276.out 12).trans rfl, (blk_cell BK276.out 13).trans rfl⟩ (fun hHeld => ?_)
     clear hK K
     refine norm_ (a' := ?_) ?_ ?_
     rotate_left
     ·show Act.put _ (some 20) _ = _
      simp only [Act.put, List.setIfInBounds_toArray, List.set_cons_zero, List.set_cons_succ, i64_w, i32_w]
      rfl
     refine pure_ (i := 19) (N := some 22) (v := ?_) (a' := ?_) #[true, true, true, true, true, true, true, true, true, true, true, true, true, true, true, true, true, true, true, true, false, false, false, false, false, false] rfl rfl (any_of HT_.out (by kernel_rfl)) (fun _ _ _ h => h) (Or.inl ⟨by rfl, ?_⟩) ?_ ?_
     rotate_left
     ·intro w'
      go_simp
      with_reducible rfl
     rotate_left
     ·simp only [Act.put, List.setIfInBounds_toArray, List.set_cons_zero, List.set_cons_succ, i64_w, i32_w]
      rfl
     refine pure_ (i := 20) (N := some 23) (v := ?_) (a' := ?_) #[true, true, true, true, true, true, true, true, true, true, true, true, true, true, true, true, true, true, true, true, true, false, false, false, false, false] rfl rfl (any_of HT_.out (by kernel_rfl)) (fun _ _ _ h => h) (Or.inl ⟨by rfl, ?_⟩) ?_ ?_
     rotate_left
     ·intro w'
      go_simp
      with_reducible rfl
     rotate_left
     ·simp only [Act.put, List.setIfInBounds_toArray, List.set_cons_zero, List.set_cons_succ, i64_w, i32_w]
      rfl
     refine pure_ (i := 21) (N := some 24) (v := ?_) (a' := ?_) #[true, true, true, true, true, true, true, true, true, true, true, true, true, true, true, true, true, true, true, true, true, true, false, false, false, false] rfl rfl (any_of HT_.out (by kernel_rfl)) (fun _ _ _ h => h) (Or.inl ⟨by rfl, ?_⟩) ?_ ?_
     rotate_left
     ·intro w'
      go_simp
      with_reducible rfl
     rotate_left
     ·simp only [Act.put, List.setIfInBounds_toArray, List.set_cons_zero, List.set_cons_succ, i64_w, i32_w]
      rfl
     refine one_ (i := 22) (N := some 25) #[true, true, true, true, true, true, true, true, true, true, true, true, true, true, true, true, true, true, true, true, true, true, true, false, false, false] rfl rfl (one_of HT_.out (by kernel_rfl)) (by decide) (fun K hK => ?_)
     refine goes_ Try.func28 (by kernel_rfl) rfl #[.slice none 0 0, .int .u64 1] (by rfl) rfl rfl (by (try simp only [List.map_toArray, List.map_cons, List.map_nil]); first | done | rfl | (simp only [List.length_drop, List.length_take]; rfl)) ?_
     refine (reject_Rejects.calls k _ _ ([] : List (S46)) 1 t352 _ ?side1 ?side2 A12.out).mono ?_
     (case side1 => exact Kd.C_nil _ _)
     (case side2 => exact Nat.le_refl _)
     rintro e w33 ⟨rfl, hb⟩
     refine ⟨_, rfl, ?_⟩
     replace HO279 := Aside0.mk (Kd.R_below (rd_ HO279.out) hb)
     replace HO313 := Aside0.mk (Kd.R_below (rd_ HO313.out) hb)
     replace HO347 := Aside0.mk (Kd.R_below (rd_ HO347.out) hb)
     replace BK276 := Aside0.mk (blk_below (bk_ BK276.out) hb)
     replace HB := Aside0.mk (below_step (bl1_ HB.out GE276.out) hb)
     (try clear hb)
     (try clear hb2)
     (try clear hk)
     (try clear hi)
     refine hK.out _ _ ⟨(blk_cell BK276.out 0).trans rfl, (blk_cell BK276.out 1).trans rfl, (blk_cell BK276.out 2).trans rfl, (blk_cell BK276.out 3).trans rfl, (blk_cell BK276.out 4).trans rfl, (blk_cell BK276.out 5).trans rfl, (blk_cell BK276.out 6).trans rfl, (blk_cell BK276.out 7).trans rfl, (blk_cell BK276.out 8).trans rfl, (blk_cell BK276.out 9).trans rfl, (blk_cell BK276.out 10).trans rfl, (blk_cell BK276.out 11).trans rfl, (blk_cell BK276.out 12).trans rfl, (blk_cell BK276.out 13).trans rfl⟩ (fun hHeld => ?_)
     clear hK K
     refine norm_ (a' := ?_) ?_ ?_
     rotate_left
     ·show Act.put _ (some 25) _ = _
      simp only [Act.put, List.setIfInBounds_toArray, List.set_cons_zero, List.set_cons_succ, i64_w, i32_w]
      rfl
     refine pure_ (i := 23) (N := some 26) (v := ?_) (a' := ?_) #[true, true, true, true, true, true, true, true, true, true, true, true, true, true, true, true, true, true, true, true, true, true, true, true, false, false] rfl rfl (any_of HT_.out (by kernel_rfl)) (fun _ _ _ h => h) (Or.inl ⟨by rfl, ?_⟩) ?_ ?_
     rotate_left
     ·intro w'
      go_simp
      with_reducible rfl
     rotate_left
     ·simp only [Act.put, List.setIfInBounds_toArray, List.set_cons_zero, List.set_cons_succ, i64_w, i32_w]
      rfl
     refine pure_ (i := 24) (N := some 27) (v := ?_) (a' := ?_) #[true, true, true, true, true, true, true, true, true, true, true, true, true, true, true, true, true, true, true, true, true, true, true, true, true, false] rfl rfl (any_of HT_.out (by kernel_rfl)) (fun _ _ _ h => h) (Or.inl ⟨by rfl, ?_⟩) ?_ ?_
     rotate_left
     ·intro w'
      go_simp
      with_reducible rfl
     rotate_left
     ·simp only [Act.put, List.setIfInBounds_toArray, List.set_cons_zero, List.set_cons_succ, i64_w, i32_w]
      rfl
     refine pure_ (i := 25) (N := some 0) (v := ?_) (a' := ?_) #[true, true, true, true, true, true, true, true, true, true, true, true, true, true, true, true, true, true, true, true, true, true, true, true, true, true] rfl rfl (any_of HT_.out (by kernel_rfl)) (fun _ _ _ h => h) (Or.inl ⟨by rfl, ?_⟩) ?_ ?_
     rotate_left
     ·intro w'
      go_simp
      with_reducible rfl
     rotate_left
     ·simp only [Act.put, List.setIfInBounds_toArray, List.set_cons_zero, List.set_cons_succ, i64_w, i32_w]
      rfl
     refine done_ (done_of HT_.out (by kernel_rfl)) ?_
     try go_wp2
     go_ret
     exact ⟨by first | rfl | (simp [errW_none, errW_some] <;> rfl) | (simp [*, errW_none, errW_some] <;> rfl), by repeat (first | (with_reducible first | exact HB.out | apply below_alloc | apply pw_below_drewN | apply below_drew1 | refine below_set ?_ GE276.out) | exact HB.out)⟩
    ·rw [if_neg c11] at H
     exact absurd H (by simp)
   ·replace c9 := Bool.eq_false_iff.mpr c9
    subst c9
    have H1 : (none) = some r := by rw [if_neg (show ¬ (false = true) by decide)] at H; exact H
    clear H
    have H := H1
    clear H1
    exact absurd H (by simp)
 ·replace c3 := Bool.eq_false_iff.mpr c3
  subst c3
  have H1 : (none) = some r := by rw [if_neg (show ¬ (false = true) by decide)] at H; exact H
  clear H
  have H := H1
  clear H1
  exact absurd H (by simp)

/-! ### watersmeetref01_power: function 66 -/
def watersmeetref01_power.l0 : Nat → Int → Int → Int → Option (Int)
 | 0, _, _, _ => none
 | k + 1, x0, x3, x4 => if x4 < x0 then (watersmeetref01_power.l0 k x0 (IntKind.u64.wrap (x3 * 2)) (wrap64 (x4 + 1))) else (some x3)
def watersmeetref01_power.f (k : Nat) (a0 : Int) : Option (Int) := watersmeetref01_power.l0 k a0 1 0
theorem watersmeetref01_power.mono_l : ∀ k, (∀ y0 y1 y2, LeO (watersmeetref01_power.l0 k y0 y1 y2) (watersmeetref01_power.l0 (k + 1) y0 y1 y2))
 | 0 => fun _ _ _ r h => by simp [watersmeetref01_power.l0] at h
 | k + 1 => by
  have ih0 := watersmeetref01_power.mono_l k
  ·intro y0 y1 y2
   unfold watersmeetref01_power.l0
   repeat' first
   | (with_reducible exact ih0 _ _ _)
   | (with_reducible exact LeO.refl _)
   | (with_reducible exact LeO.none _)
   | (with_reducible refine LeO.ite ?_ ?_)
   | (with_reducible refine LeO.bind ?_ (fun _ => ?_))
   | exact ih0 _ _ _
   | exact LeO.none _
   | refine LeO.ite ?_ ?_
   | refine LeO.bind ?_ (fun _ => ?_)
theorem watersmeetref01_power.mono : ∀ a0 k, LeO (watersmeetref01_power.f k a0) (watersmeetref01_power.f (k + 1) a0) := by
 intro a0 k
 have ih0 := watersmeetref01_power.mono_l k
 unfold watersmeetref01_power.f
 repeat' first
   | (with_reducible exact ih0 _ _ _)
   | (with_reducible exact LeO.refl _)
   | (with_reducible exact LeO.none _)
   | (with_reducible refine LeO.ite ?_ ?_)
   | (with_reducible refine LeO.bind ?_ (fun _ => ?_))
   | exact ih0 _ _ _
   | exact LeO.none _
   | refine LeO.ite ?_ ?_
   | refine LeO.bind ?_ (fun _ => ?_)
set_option maxHeartbeats 8000000 in
set_option maxRecDepth 100000 in
theorem watersmeetref01_power.calls (k : Nat) (a0 : Int) (r : Int) (w : World) (h : watersmeetref01_power.f k a0 = some r) :
  Calls Try.prog 66 #[.int .i64 a0] w fun e w' => e = .returned (.int .u64 r) ∧ Drawn0 w w' := by
 have H : (watersmeetref01_power.l0 k a0 1 0) = some r := h
 clear h
 have H' := Aside0.mk H
 clear H
 go_enter Try.func66, Try.ntmps66
 go_wp2
 go_loopg [3, 4] k (fun kq v3 v4 w' => ∃ (x3_1 : Int) (x4_1 : Int), v3 = .int .u64 x3_1 ∧ v4 = .int .i64 x4_1 ∧ Aside0 (watersmeetref01_power.l0 kq a0 x3_1 x4_1 = some r) ∧ Aside0 (kq ≤ k) ∧ Drawn0 w w')
 case atStart => exact ⟨(1), (0), (by first | rfl | (simp; done) | (simp [*]; done) | (simp; decide)), (by first | rfl | (simp; done) | (simp [*]; done) | (simp; decide)), H', ⟨Nat.le_refl _⟩, by repeat (first | exact Drawn0.refl _ | apply Drawn0.step)⟩
 case round =>
  clear H'
  obtain ⟨x3_1, x4_1, rfl, rfl, HA, HK1, ⟨m1, rfl⟩⟩ := hrel
  cases gk with
  | zero => exact absurd HA.out (by simp [watersmeetref01_power.l0])
  | succ k1 =>
   have H := HA.out
   clear HA
   simp only [watersmeetref01_power.l0] at H
   by_cases c2 : x4_1 < a0
   ·rw [if_pos c2] at H
    have c2b0 : decide (x4_1 < a0) = true := decide_eq_true c2
    clear c2
    have H' := Aside0.mk H
    clear H
    go_wp2
    go_roundg k1
    case measure => have := HK1.out; omega
    case rel => exact ⟨(IntKind.u64.wrap (x3_1 * 2)), (wrap64 (x4_1 + 1)), (by first | rfl | (simp; done) | (simp [*]; done) | (simp; decide)), (by first | rfl | (simp; done) | (simp [*]; done) | (simp; decide)), H', ⟨by have := HK1.out; omega⟩, by repeat (first | exact Drawn0.refl _ | apply Drawn0.step)⟩
   ·rw [if_neg c2] at H
    have c2b0 : decide (x4_1 < a0) = false := decide_eq_false c2
    clear c2
    obtain rfl := Option.some.inj H
    go_wp2
    go_ret
    exact ⟨by first | rfl | (simp; done) | (simp [*]; done), by repeat (first | exact Drawn0.refl _ | apply Drawn0.step)⟩

/-! ### watersmeetref01_Has: function 30 -/
def watersmeetref01_Has.f (k : Nat) (a0 : Int) (a1 : Int) : Option (Bool) := if a1 ≥ 0 then (if a1 < 64 then ((watersmeetref01_power.f k a1).bind fun t353 => (if t353 = 0 then (none) else (some ((Int.tmod (IntKind.u64.wrap (Int.tdiv a0 t353)) 2) == 1)))) else (some false)) else (some false)
theorem watersmeetref01_Has.mono : ∀ a0 a1 k, LeO (watersmeetref01_Has.f k a0 a1) (watersmeetref01_Has.f (k + 1) a0 a1) := by
 intro a0 a1 k
 unfold watersmeetref01_Has.f
 repeat' first
   | (with_reducible exact watersmeetref01_power.mono _ _)
   | (with_reducible exact LeO.refl _)
   | (with_reducible exact LeO.none _)
   | (with_reducible refine LeO.ite ?_ ?_)
   | (with_reducible refine LeO.bind ?_ (fun _ => ?_))
   | exact watersmeetref01_power.mono _ _
   | exact LeO.none _
   | refine LeO.ite ?_ ?_
   | refine LeO.bind ?_ (fun _ => ?_)
set_option maxHeartbeats 8000000 in
set_option maxRecDepth 100000 in
theorem watersmeetref01_Has.calls (k : Nat) (a0 : Int) (a1 : Int) (r : Bool) (w : World) (h : watersmeetref01_Has.f k a0 a1 = some r) :
  Calls Try.prog 30 #[.int .u64 a0, .int .i64 a1] w fun e w' => e = .returned (.bool r) ∧ Drawn0 w w' := by
 have H : (if a1 ≥ 0 then (if a1 < 64 then ((watersmeetref01_power.f k a1).bind fun t353 => (if t353 = 0 then (none) else (some ((Int.tmod (IntKind.u64.wrap (Int.tdiv a0 t353)) 2) == 1)))) else (some false)) else (some false)) = some r := h
 clear h
 by_cases c3 : a1 ≥ 0
 ·rw [if_pos c3] at H
  have c3b0 : decide (0 ≤ a1) = true := decide_eq_true c3
  clear c3
  by_cases c4 : a1 < 64
  ·rw [if_pos c4] at H
   have c4b0 : decide (a1 < 64) = true := decide_eq_true c4
   clear c4
   replace H := Option.bind_eq_some_iff.mp H
   obtain ⟨t353, A50, H⟩ := H
   replace H : (if t353 = 0 then (none) else (some ((Int.tmod (IntKind.u64.wrap (Int.tdiv a0 t353)) 2) == 1))) = some r := H
   have A5 := Aside0.mk A50
   clear A50
   by_cases c6 : t353 = 0
   ·rw [if_pos c6] at H
    exact absurd H (by simp)
   ·rw [if_neg c6] at H
    have c6b0 : (t353 == 0) = false := beq_eq_false_iff_ne.mpr c6
    have c6b1 : (t353 != 0) = true := bne_iff_ne.mpr c6
    obtain rfl := Option.some.inj H
    go_enter Try.func30, Try.ntmps30
    go_wp2_with (first | (go_at_call 66; (with_reducible refine (watersmeetref01_power.calls k a1 t353 _ A5.out).mono ?_); rintro e w' ⟨rfl, ⟨nd, rfl⟩⟩))
    go_ret
    exact ⟨by first | rfl | (simp; done) | (simp [*]; done), by repeat (first | exact Drawn0.refl _ | apply Drawn0.step)⟩
  ·rw [if_neg c4] at H
   have c4b0 : decide (a1 < 64) = false := decide_eq_false c4
   clear c4
   obtain rfl := Option.some.inj H
   go_enter Try.func30, Try.ntmps30
   go_wp2
   go_ret
   exact ⟨by first | rfl | (simp; done) | (simp [*]; done), by repeat (first | exact Drawn0.refl _ | apply Drawn0.step)⟩
 ·rw [if_neg c3] at H
  have c3b0 : decide (0 ≤ a1) = false := decide_eq_false c3
  clear c3
  obtain rfl := Option.some.inj H
  go_enter Try.func30, Try.ntmps30
  go_wp2
  go_ret
  exact ⟨by first | rfl | (simp; done) | (simp [*]; done), by repeat (first | exact Drawn0.refl _ | apply Drawn0.step)⟩

/-! ### term_row: function 97 -/
def term_row.f (l0 : List (List (S42))) (a1 : Int) : Option ((List (S42))) := if a1 < 0 then (some ([] : List (S42))) else (if a1 ≥ (l0.length : Int) then (some ([] : List (S42))) else (if 0 ≤ a1 then (if a1 < (l0.length : Int) then (some (rd_L6 l0 a1)) else (none)) else (none)))
set_option maxHeartbeats 8000000 in
set_option maxRecDepth 100000 in
theorem term_row.calls (P0_ : Nat → Prop) (A0 : Option Addr) (c0 : Nat) (l0 : List (List (S42))) (a1 : Int) (r : List (S42)) (w : World) (hs0 : Kd.V (Kd.slice 42 k42) 53 w w.heap.size (fun k_ => P0_ k_) (.slice A0 l0.length c0) l0) (h : term_row.f l0 a1 = some r) :
  Calls Try.prog 97 #[.slice A0 l0.length c0, .int .i64 a1] w fun e w' => ∃ v0_ : Value, e = .returned (v0_) ∧ Kd.V k42 42 w' w.heap.size (fun k_ => (P0_ k_ ∨ w.heap.size ≤ k_)) v0_ r ∧ Below w.heap.size w w' := by
 have HO0 := Aside0.mk (show Kd.V (Kd.slice 42 k42) 53 w w.heap.size (fun k_ => (P0_ k_ ∨ w.heap.size ≤ k_)) (.slice A0 l0.length c0) l0 from Kd.V_mono hs0 (fun k_ hk => .inl hk))
 have HB := Aside0.mk (Below.refl w.heap.size w)
 have H : (if a1 < 0 then (some ([] : List (S42))) else (if a1 ≥ (l0.length : Int) then (some ([] : List (S42))) else (if 0 ≤ a1 then (if a1 < (l0.length : Int) then (some (rd_L6 l0 a1)) else (none)) else (none)))) = some r := h
 clear h
 by_cases c3 : a1 < 0
 ·rw [if_pos c3] at H
  have c3b0 : decide (a1 < 0) = true := decide_eq_true c3
  clear c3
  obtain rfl := Option.some.inj H
  go_enter Try.func97, Try.ntmps97
  go_wp2
  go_ret
  exact ⟨(.slice none 0 0), by first | rfl | (simp [errW_none, errW_some] <;> rfl) | (simp [*, errW_none, errW_some] <;> rfl), (Kd.V_nil _ _ _ _ _), by repeat (first | (with_reducible first | exact HB.out | apply below_alloc | apply pw_below_drewN | apply below_drew1) | exact HB.out)⟩
 ·rw [if_neg c3] at H
  have c3b0 : decide (a1 < 0) = false := decide_eq_false c3
  clear c3
  by_cases c4 : a1 ≥ (l0.length : Int)
  ·rw [if_pos c4] at H
   have c4b0 : decide ((l0.length : Int) ≤ a1) = true := decide_eq_true c4
   clear c4
   obtain rfl := Option.some.inj H
   go_enter Try.func97, Try.ntmps97
   go_wp2
   go_ret
   exact ⟨(.slice none 0 0), by first | rfl | (simp [errW_none, errW_some] <;> rfl) | (simp [*, errW_none, errW_some] <;> rfl), (Kd.V_nil _ _ _ _ _), by repeat (first | (with_reducible first | exact HB.out | apply below_alloc | apply pw_below_drewN | apply below_drew1) | exact HB.out)⟩
  ·rw [if_neg c4] at H
   have c4b0 : decide ((l0.length : Int) ≤ a1) = false := decide_eq_false c4
   clear c4
   by_cases c5 : 0 ≤ a1
   ·rw [if_pos c5] at H
    have c5b0 : decide (0 ≤ a1) = true := decide_eq_true c5
    clear c5
    by_cases c6 : a1 < (l0.length : Int)
    ·rw [if_pos c6] at H
     have c6b0 : decide (a1 < (l0.length : Int)) = true := decide_eq_true c6
     clear c6
     obtain rfl := Option.some.inj H
     have p356 : 0 ≤ (a1 : Int) := of_decide_eq_true (by first | (with_reducible assumption) | assumption)
     have q356 : a1 < (l0.length : Int) := of_decide_eq_true (by first | (with_reducible assumption) | assumption)
     obtain ⟨ad356, A356_0, c356_0, e356, hx356_0, hl356_0, hi356_0⟩ := at_L6 (Kd.V_reads' HO0.out).2.2 a1 p356 q356
     cases e356
     obtain ⟨ce356, hce356, hMe356, hcc356⟩ := Kd.V_get HO0.out [] a1 p356 (by first | exact q356 | exact of_decide_eq_true (by first | (with_reducible assumption) | assumption) | (have e_ := (Kd.V_reads' HO0.out).1; omega))
     obtain ⟨ua356_0, uc356_0, rfl, ul356_0, ge356_0⟩ := Kd.FK_slice_open hMe356
     have hv356_0 := hcc356 0 _ rfl
     rw [Nat.add_zero, show ((Kd.slice 42 k42)).sz = 1 from rfl, Nat.mul_one] at hv356_0
     replace hv356_0 := Option.some.inj (hv356_0.symm.trans hx356_0)
     injection hv356_0 with hva_ hvn_ hvc_
     rw [hva_] at ge356_0
     rw [hvc_] at ul356_0
     have HL356_0 := Aside0.mk (show Kd.V k42 42 _ w.heap.size _ _ (rd_L6 l0 a1) from Kd.V_mk ul356_0 ge356_0)
     clear hva_ hvn_ hvc_ ge356_0 ul356_0
     clear hcc356 hce356
     have HR356_0 := Aside0.mk hi356_0
     have HC356_0 := Aside0.mk hl356_0
     clear hi356_0 hl356_0
     replace p356 := eq_true p356
     replace q356 := eq_true q356
     go_enter Try.func97, Try.ntmps97
     go_wp2
     go_ret
     exact ⟨_, by first | rfl | (simp [errW_none, errW_some] <;> rfl) | (simp [*, errW_none, errW_some] <;> rfl), by (with_reducible repeat (first | apply Kd.V_alloc | apply Kd.V_drewN | apply Kd.V_drew)); exact HL356_0.out, by repeat (first | (with_reducible first | exact HB.out | apply below_alloc | apply pw_below_drewN | apply below_drew1) | exact HB.out)⟩
    ·rw [if_neg c6] at H
     exact absurd H (by simp)
   ·rw [if_neg c5] at H
    exact absurd H (by simp)

/-! ### term_Of: function 69 -/
def term_Of.f (a0_0 : Int) (a0_1 : Int) (a0_2 : Int) (a0_3 : Bool) (a0_4 : Int) (l1 : List (List (S42))) : Option (Bool × Int) := if a0_0 = 1 then ((term_row.f l1 a0_1).bind fun t359 => (if a0_2 < 0 then (some (true, 0)) else (if a0_2 ≥ (t359.length : Int) then (some (true, 0)) else (if 0 ≤ a0_2 then (if a0_2 < (t359.length : Int) then (some ((rd_T42 t359 a0_2).f0, (rd_T42 t359 a0_2).f1)) else (none)) else (none))))) else (some (a0_3, a0_4))
set_option maxHeartbeats 8000000 in
set_option maxRecDepth 100000 in
theorem term_Of.calls (a0_0 : Int) (a0_1 : Int) (a0_2 : Int) (a0_3 : Bool) (a0_4 : Int) (A1 : Option Addr) (c1 : Nat) (l1 : List (List (S42))) (r1 : Bool) (r2 : Int) (w : World) (hr1 : Kd.C (Kd.slice 42 k42) w A1 l1.length l1) (hc1 : l1.length ≤ c1) (h : term_Of.f a0_0 a0_1 a0_2 a0_3 a0_4 l1 = some (r1, r2)) :
  Calls Try.prog 69 #[.agg #[.int .i64 a0_0, .int .i64 a0_1, .int .i64 a0_2, .bool a0_3, .int .i64 a0_4], .slice A1 l1.length c1] w fun e w' => e = .returned (.agg #[.bool r1, .int .i64 r2]) ∧ Below w.heap.size w w' := by
 have hu44 := Try.underlying44
 have hu42 := Try.underlying42
 have HR1 := Aside0.mk hr1
 have HC1 := Aside0.mk hc1
 clear hr1 hc1
 have HB := Aside0.mk (Below.refl w.heap.size w)
 have H : (if a0_0 = 1 then ((term_row.f l1 a0_1).bind fun t359 => (if a0_2 < 0 then (some (true, 0)) else (if a0_2 ≥ (t359.length : Int) then (some (true, 0)) else (if 0 ≤ a0_2 then (if a0_2 < (t359.length : Int) then (some ((rd_T42 t359 a0_2).f0, (rd_T42 t359 a0_2).f1)) else (none)) else (none))))) else (some (a0_3, a0_4))) = some (r1, r2) := h
 clear h
 by_cases c3 : a0_0 = 1
 ·rw [if_pos c3] at H
  have c3b0 : (a0_0 == 1) = true := beq_iff_eq.mpr c3
  have c3b1 : (a0_0 != 1) = false := bne_eq_false_iff_eq.mpr c3
  clear c3
  replace H := Option.bind_eq_some_iff.mp H
  obtain ⟨t359, A40, H⟩ := H
  replace H : (if a0_2 < 0 then (some (true, 0)) else (if a0_2 ≥ (t359.length : Int) then (some (true, 0)) else (if 0 ≤ a0_2 then (if a0_2 < (t359.length : Int) then (some ((rd_T42 t359 a0_2).f0, (rd_T42 t359 a0_2).f1)) else (none)) else (none)))) = some (r1, r2) := H
  have A4 := Aside0.mk A40
  clear A40
  by_cases c5 : a0_2 < 0
  ·rw [if_pos c5] at H
   have c5b0 : decide (a0_2 < 0) = true := decide_eq_true c5
   clear c5
   simp only [Option.some.injEq, Prod.mk.injEq] at H
   obtain ⟨rfl, rfl⟩ := H
   go_enter Try.func69, Try.ntmps69
   go_wp2_with (first | ((with_reducible refine gate_dst (N := 2) rfl ?_); (try (refine gate_guard (by rfl) ?_; dsimp only)); refine box_event ?hg (N := 2) ?hd (cs := #[.int .i64 a0_0, .int .i64 a0_1, .int .i64 a0_2, .bool a0_3, .int .i64 a0_4]) (t := 44) ?hr ?_; (case hd => rfl); (case hg => rfl); (case hr => first | (go_simp; done) | (go_simp; rfl)); intro gb357 hg w6 hbox hb; have BK357 := Aside0.mk (hbox); have GW357 := Aside0.mk ((by rw [hg]; exact (below_size (bl_ HB.out)) : w.heap.size ≤ gb357)); replace HB := Aside0.mk (below_step (bl_ HB.out) hb); have GE357 := GW357; clear hb hbox hg) | ((with_reducible refine gate_dst (N := 4) rfl ?_); (try (refine gate_guard (by rfl) ?_; dsimp only)); refine box_event ?hg (N := 4) ?hd (cs := #[.bool false, .int .i64 0]) (t := 42) ?hr ?_; (case hd => rfl); (case hg => rfl); (case hr => first | (go_simp; done) | (go_simp; rfl)); intro gb358 hg w7 hbox hb; have BK358 := Aside0.mk (hbox); have GW358 := Aside0.mk ((by rw [hg]; exact (below_size (bl1_ HB.out GE357.out)) : w.heap.size ≤ gb358)); replace HB := Aside0.mk (below_step (bl1_ HB.out GE357.out) hb); have GE358 := GW358; have NB357_358 := Aside0.mk ((by rw [hg]; exact Nat.ne_of_lt (blk_lt (bk_ BK357.out)) : gb357 ≠ gb358)); have NB358_357 := Aside0.mk ((by rw [hg]; exact Nat.ne_of_gt (blk_lt (bk_ BK357.out)) : gb358 ≠ gb357)); replace BK357 := Aside0.mk (blk_below (bk_ BK357.out) hb); clear hb hbox hg; have hnb8 := NB357_358.out; have hnc8 := NB358_357.out; have hcz9 := blk_cell BK357.out; have hfz9 := blk_frozen BK357.out; have hfz9_4 := blk_frozen BK357.out 4) | ((with_reducible refine gate_callee (f := 97) rfl ?_); refine goesL_ (some 14) rfl rfl Try.func97 (by kernel_rfl) rfl #[.slice A1 l1.length c1, .int .i64 a0_1] rfl (by (try simp only [List.map_toArray, List.map_cons, List.map_nil]); first | done | rfl | (simp only [List.length_drop, List.length_take]; rfl)) ?_; (with_reducible refine (term_row.calls (fun k_ => k_ < w.heap.size) _ _ l1 a0_1 t359 _ ?side1 A4.out).mono ?_); (case side1 => exact Kd.V_mk HC1.out (Kd.F_below (Kd.C_F (Kd.heap_slice 42 k42_heap) HR1.out) (bl2_ HB.out GE357.out GE358.out))); rintro e w10 ⟨v360, rfl, ho0, hb⟩; refine ⟨_, rfl, ?_⟩; have HO361 := Aside0.mk (Kd.V_lower (Kd.V_mono (ok' := fun k_ => k_ ≠ gb357 ∧ k_ ≠ gb358) ho0 (fun k_ hk_ => ⟨Or.elim hk_ (fun hs_ => fun e_ => Nat.not_le.2 hs_ (by rw [e_]; exact GW357.out)) (fun hn_ => (Kd.freshB (g := gb357) (o := .cells #[.int .i64 a0_0, .int .i64 a0_1, .int .i64 a0_2, .bool a0_3, .int .i64 a0_4] 44 (0, 0)) (bk_ BK357.out) k_ hn_)), Or.elim hk_ (fun hs_ => fun e_ => Nat.not_le.2 hs_ (by rw [e_]; exact GW358.out)) (fun hn_ => (Kd.freshB (g := gb358) (o := .cells #[.bool false, .int .i64 0] 42 (0, 0)) (bk_ BK358.out) k_ hn_))⟩)) (below_size (bl2_ HB.out GE357.out GE358.out))); replace BK357 := Aside0.mk (blk_below (bk_ BK357.out) hb); replace BK358 := Aside0.mk (blk_below (bk_ BK358.out) hb); replace HB := Aside0.mk (below_step (bl2_ HB.out GE357.out GE358.out) hb); (try clear hb); (try clear ho0); have hcz11 := blk_cell BK357.out; have hfz11 := blk_frozen BK357.out; have hcz12_0 : w10.cell? ⟨gb358, 0, none⟩ = some (.bool false) := (blk_cell BK358.out 0).trans rfl; have hcz12_1 : w10.cell? ⟨gb358, 1, none⟩ = some (.int .i64 0) := (blk_cell BK358.out 1).trans rfl; have hfz12_0 := blk_frozen BK358.out 0; have hfz12_1 := blk_frozen BK358.out 1))
   refine bodyPost_ret (results_cell_row rfl _ _ gb358 42 #[.bool true, .int .i64 0] (0, 0) _ rfl (by (with_reducible repeat (first | refine blk_drewN ?_ _ | refine blk_drew ?_ | refine blk_alloc ?_ _)); refine blk_put (cs := #[.bool true, .int .i64 0]) ?_ 1 _ rfl; (with_reducible repeat (first | refine blk_drewN ?_ _ | refine blk_drew ?_ | refine blk_alloc ?_ _)); refine blk_put (cs := #[.bool false, .int .i64 0]) ?_ 0 _ rfl; (with_reducible repeat (first | refine blk_drewN ?_ _ | refine blk_drew ?_ | refine blk_alloc ?_ _)); exact BK358.out) Try.underlying42 rfl (by kernel_rfl)) rfl ?_
   exact ⟨by first | rfl | (simp [errW_none, errW_some] <;> rfl) | (simp [*, errW_none, errW_some] <;> rfl), by repeat (first | (with_reducible first | exact HB.out | apply below_alloc | apply pw_below_drewN | apply below_drew1 | refine below_set ?_ GE357.out | refine below_set ?_ GE358.out) | exact HB.out)⟩
  ·rw [if_neg c5] at H
   have c5b0 : decide (a0_2 < 0) = false := decide_eq_false c5
   clear c5
   by_cases c13 : a0_2 ≥ (t359.length : Int)
   ·rw [if_pos c13] at H
    have c13b0 : decide ((t359.length : Int) ≤ a0_2) = true := decide_eq_true c13
    clear c13
    simp only [Option.some.injEq, Prod.mk.injEq] at H
    obtain ⟨rfl, rfl⟩ := H
    go_enter Try.func69, Try.ntmps69
    go_wp2_with (first | ((with_reducible refine gate_dst (N := 2) rfl ?_); (try (refine gate_guard (by rfl) ?_; dsimp only)); refine box_event ?hg (N := 2) ?hd (cs := #[.int .i64 a0_0, .int .i64 a0_1, .int .i64 a0_2, .bool a0_3, .int .i64 a0_4]) (t := 44) ?hr ?_; (case hd => rfl); (case hg => rfl); (case hr => first | (go_simp; done) | (go_simp; rfl)); intro gb357 hg w14 hbox hb; have BK357 := Aside0.mk (hbox); have GW357 := Aside0.mk ((by rw [hg]; exact (below_size (bl_ HB.out)) : w.heap.size ≤ gb357)); replace HB := Aside0.mk (below_step (bl_ HB.out) hb); have GE357 := GW357; clear hb hbox hg) | ((with_reducible refine gate_dst (N := 4) rfl ?_); (try (refine gate_guard (by rfl) ?_; dsimp only)); refine box_event ?hg (N := 4) ?hd (cs := #[.bool false, .int .i64 0]) (t := 42) ?hr ?_; (case hd => rfl); (case hg => rfl); (case hr => first | (go_simp; done) | (go_simp; rfl)); intro gb358 hg w15 hbox hb; have BK358 := Aside0.mk (hbox); have GW358 := Aside0.mk ((by rw [hg]; exact (below_size (bl1_ HB.out GE357.out)) : w.heap.size ≤ gb358)); replace HB := Aside0.mk (below_step (bl1_ HB.out GE357.out) hb); have GE358 := GW358; have NB357_358 := Aside0.mk ((by rw [hg]; exact Nat.ne_of_lt (blk_lt (bk_ BK357.out)) : gb357 ≠ gb358)); have NB358_357 := Aside0.mk ((by rw [hg]; exact Nat.ne_of_gt (blk_lt (bk_ BK357.out)) : gb358 ≠ gb357)); replace BK357 := Aside0.mk (blk_below (bk_ BK357.out) hb); clear hb hbox hg; have hnb16 := NB357_358.out; have hnc16 := NB358_357.out; have hcz17 := blk_cell BK357.out; have hfz17 := blk_frozen BK357.out; have hfz17_4 := blk_frozen BK357.out 4) | ((with_reducible refine gate_callee (f := 97) rfl ?_); refine goesL_ (some 14) rfl rfl Try.func97 (by kernel_rfl) rfl #[.slice A1 l1.length c1, .int .i64 a0_1] rfl (by (try simp only [List.map_toArray, List.map_cons, List.map_nil]); first | done | rfl | (simp only [List.length_drop, List.length_take]; rfl)) ?_; (with_reducible refine (term_row.calls (fun k_ => k_ < w.heap.size) _ _ l1 a0_1 t359 _ ?side1 A4.out).mono ?_); (case side1 => exact Kd.V_mk HC1.out (Kd.F_below (Kd.C_F (Kd.heap_slice 42 k42_heap) HR1.out) (bl2_ HB.out GE357.out GE358.out))); rintro e w18 ⟨v360, rfl, ho0, hb⟩; refine ⟨_, rfl, ?_⟩; have HO361 := Aside0.mk (Kd.V_lower (Kd.V_mono (ok' := fun k_ => k_ ≠ gb357 ∧ k_ ≠ gb358) ho0 (fun k_ hk_ => ⟨Or.elim hk_ (fun hs_ => fun e_ => Nat.not_le.2 hs_ (by rw [e_]; exact GW357.out)) (fun hn_ => (Kd.freshB (g := gb357) (o := .cells #[.int .i64 a0_0, .int .i64 a0_1, .int .i64 a0_2, .bool a0_3, .int .i64 a0_4] 44 (0, 0)) (bk_ BK357.out) k_ hn_)), Or.elim hk_ (fun hs_ => fun e_ => Nat.not_le.2 hs_ (by rw [e_]; exact GW358.out)) (fun hn_ => (Kd.freshB (g := gb358) (o := .cells #[.bool false, .int .i64 0] 42 (0, 0)) (bk_ BK358.out) k_ hn_))⟩)) (below_size (bl2_ HB.out GE357.out GE358.out))); replace BK357 := Aside0.mk (blk_below (bk_ BK357.out) hb); replace BK358 := Aside0.mk (blk_below (bk_ BK358.out) hb); replace HB := Aside0.mk (below_step (bl2_ HB.out GE357.out GE358.out) hb); (try clear hb); (try clear ho0); have hcz19 := blk_cell BK357.out; have hfz19 := blk_frozen BK357.out; obtain ⟨Ao20, co20, eo20⟩ := Kd.V_slice HO361.out; subst eo20; have hcz21_0 : w18.cell? ⟨gb358, 0, none⟩ = some (.bool false) := (blk_cell BK358.out 0).trans rfl; have hcz21_1 : w18.cell? ⟨gb358, 1, none⟩ = some (.int .i64 0) := (blk_cell BK358.out 1).trans rfl; have hfz21_0 := blk_frozen BK358.out 0; have hfz21_1 := blk_frozen BK358.out 1))
    refine bodyPost_ret (results_cell_row rfl _ _ gb358 42 #[.bool true, .int .i64 0] (0, 0) _ rfl (by (with_reducible repeat (first | refine blk_drewN ?_ _ | refine blk_drew ?_ | refine blk_alloc ?_ _)); refine blk_put (cs := #[.bool true, .int .i64 0]) ?_ 1 _ rfl; (with_reducible repeat (first | refine blk_drewN ?_ _ | refine blk_drew ?_ | refine blk_alloc ?_ _)); refine blk_put (cs := #[.bool false, .int .i64 0]) ?_ 0 _ rfl; (with_reducible repeat (first | refine blk_drewN ?_ _ | refine blk_drew ?_ | refine blk_alloc ?_ _)); exact BK358.out) Try.underlying42 rfl (by kernel_rfl)) rfl ?_
    exact ⟨by first | rfl | (simp [errW_none, errW_some] <;> rfl) | (simp [*, errW_none, errW_some] <;> rfl), by repeat (first | (with_reducible first | exact HB.out | apply below_alloc | apply pw_below_drewN | apply below_drew1 | refine below_set ?_ GE357.out | refine below_set ?_ GE358.out) | exact HB.out)⟩
   ·rw [if_neg c13] at H
    have c13b0 : decide ((t359.length : Int) ≤ a0_2) = false := decide_eq_false c13
    clear c13
    by_cases c22 : 0 ≤ a0_2
    ·rw [if_pos c22] at H
     have c22b0 : decide (0 ≤ a0_2) = true := decide_eq_true c22
     clear c22
     by_cases c23 : a0_2 < (t359.length : Int)
     ·rw [if_pos c23] at H
      have c23b0 : decide (a0_2 < (t359.length : Int)) = true := decide_eq_true c23
      clear c23
      simp only [Option.some.injEq, Prod.mk.injEq] at H
      obtain ⟨rfl, rfl⟩ := H
      go_enter Try.func69, Try.ntmps69
      go_wp2_with (first | ((with_reducible refine gate_dst (N := 2) rfl ?_); (try (refine gate_guard (by rfl) ?_; dsimp only)); refine box_event ?hg (N := 2) ?hd (cs := #[.int .i64 a0_0, .int .i64 a0_1, .int .i64 a0_2, .bool a0_3, .int .i64 a0_4]) (t := 44) ?hr ?_; (case hd => rfl); (case hg => rfl); (case hr => first | (go_simp; done) | (go_simp; rfl)); intro gb357 hg w24 hbox hb; have BK357 := Aside0.mk (hbox); have GW357 := Aside0.mk ((by rw [hg]; exact (below_size (bl_ HB.out)) : w.heap.size ≤ gb357)); replace HB := Aside0.mk (below_step (bl_ HB.out) hb); have GE357 := GW357; clear hb hbox hg) | ((with_reducible refine gate_dst (N := 4) rfl ?_); (try (refine gate_guard (by rfl) ?_; dsimp only)); refine box_event ?hg (N := 4) ?hd (cs := #[.bool false, .int .i64 0]) (t := 42) ?hr ?_; (case hd => rfl); (case hg => rfl); (case hr => first | (go_simp; done) | (go_simp; rfl)); intro gb358 hg w25 hbox hb; have BK358 := Aside0.mk (hbox); have GW358 := Aside0.mk ((by rw [hg]; exact (below_size (bl1_ HB.out GE357.out)) : w.heap.size ≤ gb358)); replace HB := Aside0.mk (below_step (bl1_ HB.out GE357.out) hb); have GE358 := GW358; have NB357_358 := Aside0.mk ((by rw [hg]; exact Nat.ne_of_lt (blk_lt (bk_ BK357.out)) : gb357 ≠ gb358)); have NB358_357 := Aside0.mk ((by rw [hg]; exact Nat.ne_of_gt (blk_lt (bk_ BK357.out)) : gb358 ≠ gb357)); replace BK357 := Aside0.mk (blk_below (bk_ BK357.out) hb); clear hb hbox hg; have hnb26 := NB357_358.out; have hnc26 := NB358_357.out; have hcz27 := blk_cell BK357.out; have hfz27 := blk_frozen BK357.out; have hfz27_4 := blk_frozen BK357.out 4) | ((with_reducible refine gate_callee (f := 97) rfl ?_); refine goesL_ (some 14) rfl rfl Try.func97 (by kernel_rfl) rfl #[.slice A1 l1.length c1, .int .i64 a0_1] rfl (by (try simp only [List.map_toArray, List.map_cons, List.map_nil]); first | done | rfl | (simp only [List.length_drop, List.length_take]; rfl)) ?_; (with_reducible refine (term_row.calls (fun k_ => k_ < w.heap.size) _ _ l1 a0_1 t359 _ ?side1 A4.out).mono ?_); (case side1 => exact Kd.V_mk HC1.out (Kd.F_below (Kd.C_F (Kd.heap_slice 42 k42_heap) HR1.out) (bl2_ HB.out GE357.out GE358.out))); rintro e w28 ⟨v360, rfl, ho0, hb⟩; refine ⟨_, rfl, ?_⟩; have HO361 := Aside0.mk (Kd.V_lower (Kd.V_mono (ok' := fun k_ => k_ ≠ gb357 ∧ k_ ≠ gb358) ho0 (fun k_ hk_ => ⟨Or.elim hk_ (fun hs_ => fun e_ => Nat.not_le.2 hs_ (by rw [e_]; exact GW357.out)) (fun hn_ => (Kd.freshB (g := gb357) (o := .cells #[.int .i64 a0_0, .int .i64 a0_1, .int .i64 a0_2, .bool a0_3, .int .i64 a0_4] 44 (0, 0)) (bk_ BK357.out) k_ hn_)), Or.elim hk_ (fun hs_ => fun e_ => Nat.not_le.2 hs_ (by rw [e_]; exact GW358.out)) (fun hn_ => (Kd.freshB (g := gb358) (o := .cells #[.bool false, .int .i64 0] 42 (0, 0)) (bk_ BK358.out) k_ hn_))⟩)) (below_size (bl2_ HB.out GE357.out GE358.out))); replace BK357 := Aside0.mk (blk_below (bk_ BK357.out) hb); replace BK358 := Aside0.mk (blk_below (bk_ BK358.out) hb); replace HB := Aside0.mk (below_step (bl2_ HB.out GE357.out GE358.out) hb); (try clear hb); (try clear ho0); have hcz29 := blk_cell BK357.out; have hfz29 := blk_frozen BK357.out; obtain ⟨Ao30, co30, eo30⟩ := Kd.V_slice HO361.out; subst eo30; have p362 : 0 ≤ (a0_2 : Int) := of_decide_eq_true (by first | (with_reducible assumption) | assumption); have q362 : a0_2 < (t359.length : Int) := of_decide_eq_true (by first | (with_reducible assumption) | assumption); obtain ⟨ad362, e362, hx362_0, hx362_1⟩ := at_T42 (Kd.V_reads' HO361.out).2.2 a0_2 p362 q362; cases e362; replace p362 := eq_true p362; replace q362 := eq_true q362; have hcz31_0 : w28.cell? ⟨gb358, 0, none⟩ = some (.bool false) := (blk_cell BK358.out 0).trans rfl; have hcz31_1 : w28.cell? ⟨gb358, 1, none⟩ = some (.int .i64 0) := (blk_cell BK358.out 1).trans rfl; have hfz31_0 := blk_frozen BK358.out 0; have hfz31_1 := blk_frozen BK358.out 1))
      refine bodyPost_ret (results_cell_row rfl _ _ gb358 42 #[.bool ((rd_T42 t359 a0_2).f0), .int .i64 ((rd_T42 t359 a0_2).f1)] (0, 0) _ rfl (by (with_reducible repeat (first | refine blk_drewN ?_ _ | refine blk_drew ?_ | refine blk_alloc ?_ _)); refine blk_put (cs := #[.bool ((rd_T42 t359 a0_2).f0), .int .i64 0]) ?_ 1 _ rfl; (with_reducible repeat (first | refine blk_drewN ?_ _ | refine blk_drew ?_ | refine blk_alloc ?_ _)); refine blk_put (cs := #[.bool false, .int .i64 0]) ?_ 0 _ rfl; (with_reducible repeat (first | refine blk_drewN ?_ _ | refine blk_drew ?_ | refine blk_alloc ?_ _)); exact BK358.out) Try.underlying42 rfl (by kernel_rfl)) rfl ?_
      exact ⟨by first | rfl | (simp [errW_none, errW_some] <;> rfl) | (simp [*, errW_none, errW_some] <;> rfl), by repeat (first | (with_reducible first | exact HB.out | apply below_alloc | apply pw_below_drewN | apply below_drew1 | refine below_set ?_ GE357.out | refine below_set ?_ GE358.out) | exact HB.out)⟩
     ·rw [if_neg c23] at H
      exact absurd H (by simp)
    ·rw [if_neg c22] at H
     exact absurd H (by simp)
 ·rw [if_neg c3] at H
  have c3b0 : (a0_0 == 1) = false := beq_eq_false_iff_ne.mpr c3
  have c3b1 : (a0_0 != 1) = true := bne_iff_ne.mpr c3
  simp only [Option.some.injEq, Prod.mk.injEq] at H
  obtain ⟨rfl, rfl⟩ := H
  go_enter Try.func69, Try.ntmps69
  go_wp2_with (first | ((with_reducible refine gate_dst (N := 2) rfl ?_); (try (refine gate_guard (by rfl) ?_; dsimp only)); refine box_event ?hg (N := 2) ?hd (cs := #[.int .i64 a0_0, .int .i64 a0_1, .int .i64 a0_2, .bool a0_3, .int .i64 a0_4]) (t := 44) ?hr ?_; (case hd => rfl); (case hg => rfl); (case hr => first | (go_simp; done) | (go_simp; rfl)); intro gb357 hg w32 hbox hb; have BK357 := Aside0.mk (hbox); have GW357 := Aside0.mk ((by rw [hg]; exact (below_size (bl_ HB.out)) : w.heap.size ≤ gb357)); replace HB := Aside0.mk (below_step (bl_ HB.out) hb); have GE357 := GW357; clear hb hbox hg) | ((with_reducible refine gate_dst (N := 4) rfl ?_); (try (refine gate_guard (by rfl) ?_; dsimp only)); refine box_event ?hg (N := 4) ?hd (cs := #[.bool false, .int .i64 0]) (t := 42) ?hr ?_; (case hd => rfl); (case hg => rfl); (case hr => first | (go_simp; done) | (go_simp; rfl)); intro gb358 hg w33 hbox hb; have BK358 := Aside0.mk (hbox); have GW358 := Aside0.mk ((by rw [hg]; exact (below_size (bl1_ HB.out GE357.out)) : w.heap.size ≤ gb358)); replace HB := Aside0.mk (below_step (bl1_ HB.out GE357.out) hb); have GE358 := GW358; have NB357_358 := Aside0.mk ((by rw [hg]; exact Nat.ne_of_lt (blk_lt (bk_ BK357.out)) : gb357 ≠ gb358)); have NB358_357 := Aside0.mk ((by rw [hg]; exact Nat.ne_of_gt (blk_lt (bk_ BK357.out)) : gb358 ≠ gb357)); replace BK357 := Aside0.mk (blk_below (bk_ BK357.out) hb); clear hb hbox hg; have hnb34 := NB357_358.out; have hnc34 := NB358_357.out; have hcz35 := blk_cell BK357.out; have hfz35 := blk_frozen BK357.out; have hcz36_0 : w33.cell? ⟨gb358, 0, none⟩ = some (.bool false) := (blk_cell BK358.out 0).trans rfl; have hcz36_1 : w33.cell? ⟨gb358, 1, none⟩ = some (.int .i64 0) := (blk_cell BK358.out 1).trans rfl; have hfz36_0 := blk_frozen BK358.out 0; have hfz36_1 := blk_frozen BK358.out 1))
  refine bodyPost_ret (results_cell_row rfl _ _ gb358 42 #[.bool a0_3, .int .i64 a0_4] (0, 0) _ rfl (by (with_reducible repeat (first | refine blk_drewN ?_ _ | refine blk_drew ?_ | refine blk_alloc ?_ _)); refine blk_put (cs := #[.bool a0_3, .int .i64 0]) ?_ 1 _ rfl; (with_reducible repeat (first | refine blk_drewN ?_ _ | refine blk_drew ?_ | refine blk_alloc ?_ _)); refine blk_put (cs := #[.bool false, .int .i64 0]) ?_ 0 _ rfl; (with_reducible repeat (first | refine blk_drewN ?_ _ | refine blk_drew ?_ | refine blk_alloc ?_ _)); exact BK358.out) Try.underlying42 rfl (by kernel_rfl)) rfl ?_
  exact ⟨by first | rfl | (simp [errW_none, errW_some] <;> rfl) | (simp [*, errW_none, errW_some] <;> rfl), by repeat (first | (with_reducible first | exact HB.out | apply below_alloc | apply pw_below_drewN | apply below_drew1 | refine below_set ?_ GE357.out | refine below_set ?_ GE358.out) | exact HB.out)⟩

/-! ### logic_Of: function 70 -/
def logic_Of.f (a0 : Bool) : Option (Int) := if a0 = true then (some 2) else (some 0)
set_option maxHeartbeats 8000000 in
set_option maxRecDepth 100000 in
theorem logic_Of.calls (a0 : Bool) (r : Int) (w : World) (h : logic_Of.f a0 = some r) :
    Calls Try.prog 70 #[.bool a0] w fun e w' => e = .returned (.int .i64 r) ∧ Drawn0 w w' := by
  have H : (if a0 = true then (some 2) else (some 0)) = some r := h
  clear h
  by_cases c2 : a0 = true
  · subst c2
    have H1 : (some 2) = some r := by rw [if_pos rfl] at H; exact H
    clear H
    have H := H1
    clear H1
    obtain rfl := Option.some.inj H
    go_enter Try.func70, Try.ntmps70
    go_wp2
    go_ret
    exact ⟨by first | rfl | (simp; done) | (simp [*]; done), by repeat (first | exact Drawn0.refl _ | apply Drawn0.step)⟩
  · replace c2 := Bool.eq_false_iff.mpr c2
    subst c2
    have H1 : (some 0) = some r := by rw [if_neg (show ¬ (false = true) by decide)] at H; exact H
    clear H
    have H := H1
    clear H1
    obtain rfl := Option.some.inj H
    go_enter Try.func70, Try.ntmps70
    go_wp2
    go_ret
    exact ⟨by first | rfl | (simp; done) | (simp [*]; done), by repeat (first | exact Drawn0.refl _ | apply Drawn0.step)⟩

/-! ### logic_Not: function 71 -/
def logic_Not.f (a0 : Int) : Option (Int) := (logic_of.f a0).bind fun t367 => (some (wrap64 (2 - t367)))
set_option maxHeartbeats 8000000 in
set_option maxRecDepth 100000 in
theorem logic_Not.calls (a0 : Int) (r : Int) (w : World) (h : logic_Not.f a0 = some r) :
    Calls Try.prog 71 #[.int .i64 a0] w fun e w' => e = .returned (.int .i64 r) ∧ Drawn0 w w' := by
  have H : ((logic_of.f a0).bind fun t367 => (some (wrap64 (2 - t367)))) = some r := h
  clear h
  replace H := Option.bind_eq_some_iff.mp H
  obtain ⟨t367, A20, H⟩ := H
  replace H : (some (wrap64 (2 - t367))) = some r := H
  have A2 := Aside0.mk A20
  clear A20
  obtain rfl := Option.some.inj H
  go_enter Try.func71, Try.ntmps71
  go_wp2_with (first | ((with_reducible refine gate_callee (f := 98) rfl ?_); refine goesL_ (some 4) rfl rfl Try.func98 (by kernel_rfl) rfl #[.int .i64 a0] rfl (by (try simp only [List.map_toArray, List.map_cons, List.map_nil]); first | done | rfl | (simp only [List.length_drop, List.length_take]; rfl)) ?_; (with_reducible refine (logic_of.calls a0 t367 _ A2.out).mono ?_); rintro e w' ⟨rfl, ⟨nd, rfl⟩⟩; refine ⟨_, rfl, ?_⟩))
  go_ret
  exact ⟨by first | rfl | (simp; done) | (simp [*]; done), by repeat (first | exact Drawn0.refl _ | apply Drawn0.step)⟩

end Go.Proofs.Ytigkkfhpnfjmhaa.PRejM
