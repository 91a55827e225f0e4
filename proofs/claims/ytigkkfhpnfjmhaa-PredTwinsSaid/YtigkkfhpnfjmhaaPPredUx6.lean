/- Laid by a program of this session over the printer of the kit: contracts of functions of the given program, and rows of laws. Lean checks it. -/
import Derived.Test.YtigkkfhpnfjmhaaPPredUx0
import Derived.Test.YtigkkfhpnfjmhaaPPredUx1
import Derived.Test.YtigkkfhpnfjmhaaPPredUx5
namespace Go.Proofs.Ytigkkfhpnfjmhaa.PPredU
open Go.RowKit Go.Proofs.YtigkkfhpnfjmhaaW.PrintWords Go.Proofs.YtigkkfhpnfjmhaaW.PrintLast Go.Proofs.YtigkkfhpnfjmhaaW.PrintMore
attribute [local go_sem] max2_int min2_int max_two min_two max_three min_three max_four min_four   -- for this text's walks alone
set_option linter.unusedVariables false
set_option linter.unusedSimpArgs false

attribute [local go_sem high] eqA44
/-! ### pred_Right: function 37 -/
def pred_Right.f (k : Nat) (a0_0 : Int) (a0_1 : Int) (a0_2 : Int) (a0_3 : Int) (a0_4 : Int) (a0_5 : Int) (a0_6 : Bool) (a0_7 : Int) (a0_8 : Int) (a0_9 : Int) (a0_10 : Int) (a0_11 : Bool) (a0_12 : Int) (l0_13 : List (S46)) : Option (Bool) := (pred_rightAt.f k a0_0 a0_1 a0_2 a0_3 a0_4 a0_5 a0_6 a0_7 a0_8 a0_9 a0_10 a0_11 a0_12 l0_13 1).bind fun t287 => (some t287)
theorem pred_Right.mono : ∀ a0 a1 a2 a3 a4 a5 a6 a7 a8 a9 a10 a11 a12 a13 k, LeO (pred_Right.f k a0 a1 a2 a3 a4 a5 a6 a7 a8 a9 a10 a11 a12 a13) (pred_Right.f (k + 1) a0 a1 a2 a3 a4 a5 a6 a7 a8 a9 a10 a11 a12 a13) := by
 intro a0 a1 a2 a3 a4 a5 a6 a7 a8 a9 a10 a11 a12 a13 k
 unfold pred_Right.f
 repeat' first
   | (with_reducible exact pred_rightAt.mono _ _ _ _ _ _ _ _ _ _ _ _ _ _ _ _)
   | (with_reducible exact LeO.refl _)
   | (with_reducible exact LeO.none _)
   | (with_reducible refine LeO.ite ?_ ?_)
   | (with_reducible refine LeO.bind ?_ (fun _ => ?_))
   | exact pred_rightAt.mono _ _ _ _ _ _ _ _ _ _ _ _ _ _ _ _
   | exact LeO.none _
   | refine LeO.ite ?_ ?_
   | refine LeO.bind ?_ (fun _ => ?_)
set_option maxHeartbeats 8000000 in
set_option maxRecDepth 100000 in
theorem pred_Right.calls (k : Nat) (a0_0 : Int) (a0_1 : Int) (a0_2 : Int) (a0_3 : Int) (a0_4 : Int) (a0_5 : Int) (a0_6 : Bool) (a0_7 : Int) (a0_8 : Int) (a0_9 : Int) (a0_10 : Int) (a0_11 : Bool) (a0_12 : Int) (A0_13 : Option Addr) (c0_13 : Nat) (l0_13 : List (S46)) (r : Bool) (w : World) (hr0_13 : Kd.C k46 w A0_13 l0_13.length l0_13) (hc0_13 : l0_13.length ≤ c0_13) (h : pred_Right.f k a0_0 a0_1 a0_2 a0_3 a0_4 a0_5 a0_6 a0_7 a0_8 a0_9 a0_10 a0_11 a0_12 l0_13 = some r) :
  Calls Try.prog 37 #[.agg #[.int .i64 a0_0, .int .i64 a0_1, .int .i64 a0_2, .int .i64 a0_3, .int .i64 a0_4, .int .i64 a0_5, .bool a0_6, .int .i64 a0_7, .int .i64 a0_8, .int .i64 a0_9, .int .i64 a0_10, .bool a0_11, .int .i64 a0_12, .slice A0_13 l0_13.length c0_13]] w fun e w' => e = .returned (.bool r) ∧ Below w.heap.size w w' := by
 have hu46 := Try.underlying46
 have HR0_13 := Aside0.mk hr0_13
 have HC0_13 := Aside0.mk hc0_13
 clear hr0_13 hc0_13
 have HB := Aside0.mk (Below.refl w.heap.size w)
 have H : ((pred_rightAt.f k a0_0 a0_1 a0_2 a0_3 a0_4 a0_5 a0_6 a0_7 a0_8 a0_9 a0_10 a0_11 a0_12 l0_13 1).bind fun t287 => (some t287)) = some r := h
 clear h
 replace H := Option.bind_eq_some_iff.mp H
 obtain ⟨t287, A20, H⟩ := H
 replace H : (some t287) = some r := H
 have A2 := Aside0.mk A20
 clear A20
 obtain rfl := Option.some.inj H
 go_enter Try.func37, Try.ntmps37
 go_wp2_with (first | ((with_reducible refine gate_dst (N := 1) rfl ?_); refine box_event ?hg (N := 1) ?hd (cs := #[.int .i64 a0_0, .int .i64 a0_1, .int .i64 a0_2, .int .i64 a0_3, .int .i64 a0_4, .int .i64 a0_5, .bool a0_6, .int .i64 a0_7, .int .i64 a0_8, .int .i64 a0_9, .int .i64 a0_10, .bool a0_11, .int .i64 a0_12, .slice A0_13 l0_13.length c0_13]) (t := 46) ?hr ?_; (case hd => rfl); (case hg => rfl); (case hr => first | (go_simp; done) | (go_simp; rfl)); intro gb286 hg w3 hbox hb; have n0_ := Aside0.mk (below_step (by repeat (first | (with_reducible first | exact HB.out | apply below_alloc | apply pw_below_drewN | apply below_drew1) | exact HB.out)) hb); have n1_ := Aside0.mk (hbox); have n2_ := Aside0.mk ((by rw [hg]; exact (below_size (by repeat (first | (with_reducible first | exact HB.out | apply below_alloc | apply pw_below_drewN | apply below_drew1) | exact HB.out))) : w.heap.size ≤ gb286)); have n3_ := n2_; clear HB; have HB := n0_; have BK286 := n1_; have GW286 := n2_; have GE286 := n3_; clear n0_ n1_ n2_ n3_; clear hb hbox hg; have hcz4 := blk_cell BK286.out; have hfz4 := blk_frozen BK286.out; have hfz4_13 := blk_frozen BK286.out 13) | ((with_reducible refine gate_callee (f := 74) rfl ?_); refine goesL_ (some 4) rfl rfl Try.func74 (by kernel_rfl) rfl #[.agg #[.int .i64 a0_0, .int .i64 a0_1, .int .i64 a0_2, .int .i64 a0_3, .int .i64 a0_4, .int .i64 a0_5, .bool a0_6, .int .i64 a0_7, .int .i64 a0_8, .int .i64 a0_9, .int .i64 a0_10, .bool a0_11, .int .i64 a0_12, .slice A0_13 l0_13.length c0_13], .int .i64 1] rfl (by (try simp only [List.map_toArray, List.map_cons, List.map_nil]); first | done | rfl | (simp only [List.length_drop, List.length_take]; rfl)) ?_; (with_reducible refine (pred_rightAt.calls k a0_0 a0_1 a0_2 a0_3 a0_4 a0_5 a0_6 a0_7 a0_8 a0_9 a0_10 a0_11 a0_12 _ _ l0_13 1 t287 _ ?side1 ?side2 A2.out).mono ?_); (case side1 => repeat (first | exact (Kd.C_below HR0_13.out HB.out) | (with_reducible refine Kd.C_alloc ?_ _) | (with_reducible refine Kd.C_drewN ?_ _) | (with_reducible refine Kd.C_drew ?_))); (case side2 => exact HC0_13.out); rintro e w5 ⟨rfl, hb⟩; refine ⟨_, rfl, ?_⟩; have n0_ := Aside0.mk (blk_below (by (with_reducible repeat (first | refine blk_drewN ?_ _ | refine blk_drew ?_ | refine blk_alloc ?_ _)); exact BK286.out) hb); have n1_ := Aside0.mk (below_step (by repeat (first | (with_reducible first | exact HB.out | apply below_alloc | apply pw_below_drewN | apply below_drew1 | refine below_set ?_ GE286.out) | exact HB.out)) hb); clear BK286; clear HB; have BK286 := n0_; have HB := n1_; clear n0_ n1_; (try clear hb); (try clear hb2); (try clear hk); (try clear hi)))
 go_ret
 exact ⟨by first | rfl | (simp [errW_none, errW_some] <;> rfl) | (simp [*, errW_none, errW_some] <;> rfl), by repeat (first | (with_reducible first | exact HB.out | apply below_alloc | apply pw_below_drewN | apply below_drew1 | refine below_set ?_ GE286.out) | exact HB.out)⟩

/-! ### term_Same: function 76 -/
def term_Same.f (a0_0 : Int) (a0_1 : Int) (a0_2 : Int) (a0_3 : Bool) (a0_4 : Int) (a1_0 : Int) (a1_1 : Int) (a1_2 : Int) (a1_3 : Bool) (a1_4 : Int) : Option (Bool) := some (a0_0 == a1_0 && (a0_1 == a1_1 && (a0_2 == a1_2 && ((a0_3 == a1_3 && (a0_4 == a1_4))))))
set_option maxHeartbeats 8000000 in
set_option maxRecDepth 100000 in
theorem term_Same.calls (a0_0 : Int) (a0_1 : Int) (a0_2 : Int) (a0_3 : Bool) (a0_4 : Int) (a1_0 : Int) (a1_1 : Int) (a1_2 : Int) (a1_3 : Bool) (a1_4 : Int) (r : Bool) (w : World) (h : term_Same.f a0_0 a0_1 a0_2 a0_3 a0_4 a1_0 a1_1 a1_2 a1_3 a1_4 = some r) :
  Calls Try.prog 76 #[.agg #[.int .i64 a0_0, .int .i64 a0_1, .int .i64 a0_2, .bool a0_3, .int .i64 a0_4], .agg #[.int .i64 a1_0, .int .i64 a1_1, .int .i64 a1_2, .bool a1_3, .int .i64 a1_4]] w fun e w' => e = .returned (.bool r) ∧ Below w.heap.size w w' := by
 have hu44 := Try.underlying44
 have HB := Aside0.mk (Below.refl w.heap.size w)
 have H : (some (a0_0 == a1_0 && (a0_1 == a1_1 && (a0_2 == a1_2 && ((a0_3 == a1_3 && (a0_4 == a1_4))))))) = some r := h
 clear h
 obtain rfl := Option.some.inj H
 go_enter Try.func76, Try.ntmps76
 go_wp2_with (first | ((with_reducible refine gate_dst (N := 2) rfl ?_); refine box_event ?hg (N := 2) ?hd (cs := #[.int .i64 a0_0, .int .i64 a0_1, .int .i64 a0_2, .bool a0_3, .int .i64 a0_4]) (t := 44) ?hr ?_; (case hd => rfl); (case hg => rfl); (case hr => first | (go_simp; done) | (go_simp; rfl)); intro gb288 hg w3 hbox hb; have n0_ := Aside0.mk (below_step (by repeat (first | (with_reducible first | exact HB.out | apply below_alloc | apply pw_below_drewN | apply below_drew1) | exact HB.out)) hb); have n1_ := Aside0.mk (hbox); have n2_ := Aside0.mk ((by rw [hg]; exact (below_size (by repeat (first | (with_reducible first | exact HB.out | apply below_alloc | apply pw_below_drewN | apply below_drew1) | exact HB.out))) : w.heap.size ≤ gb288)); have n3_ := n2_; clear HB; have HB := n0_; have BK288 := n1_; have GW288 := n2_; have GE288 := n3_; clear n0_ n1_ n2_ n3_; clear hb hbox hg) | ((with_reducible refine gate_dst (N := 3) rfl ?_); refine box_event ?hg (N := 3) ?hd (cs := #[.int .i64 a1_0, .int .i64 a1_1, .int .i64 a1_2, .bool a1_3, .int .i64 a1_4]) (t := 44) ?hr ?_; (case hd => rfl); (case hg => rfl); (case hr => first | (go_simp; done) | (go_simp; rfl)); intro gb289 hg w4 hbox hb; have n0_ := Aside0.mk (blk_below (by (with_reducible repeat (first | refine blk_drewN ?_ _ | refine blk_drew ?_ | refine blk_alloc ?_ _)); exact BK288.out) hb); have n1_ := Aside0.mk (below_step (by repeat (first | (with_reducible first | exact HB.out | apply below_alloc | apply pw_below_drewN | apply below_drew1 | refine below_set ?_ GE288.out) | exact HB.out)) hb); have n2_ := Aside0.mk (hbox); have n3_ := Aside0.mk ((by rw [hg]; exact (below_size (by repeat (first | (with_reducible first | exact HB.out | apply below_alloc | apply pw_below_drewN | apply below_drew1 | refine below_set ?_ GE288.out) | exact HB.out))) : w.heap.size ≤ gb289)); have n4_ := n3_; have n5_ := Aside0.mk ((by rw [hg]; exact Nat.ne_of_lt (blk_lt (by (with_reducible repeat (first | refine blk_drewN ?_ _ | refine blk_drew ?_ | refine blk_alloc ?_ _)); exact BK288.out)) : gb288 ≠ gb289)); have n6_ := Aside0.mk ((by rw [hg]; exact Nat.ne_of_gt (blk_lt (by (with_reducible repeat (first | refine blk_drewN ?_ _ | refine blk_drew ?_ | refine blk_alloc ?_ _)); exact BK288.out)) : gb289 ≠ gb288)); clear BK288; clear HB; have BK288 := n0_; have HB := n1_; have BK289 := n2_; have GW289 := n3_; have GE289 := n4_; have NB288_289 := n5_; have NB289_288 := n6_; clear n0_ n1_ n2_ n3_ n4_ n5_ n6_; clear hb hbox hg; have hnb5 := NB288_289.out; have hnc5 := NB289_288.out; have hcz6 := blk_cell BK288.out; have hfz6 := blk_frozen BK288.out; have hcz7 := blk_cell BK289.out; have hfz7 := blk_frozen BK289.out; have hfz7_4 := blk_frozen BK289.out 4))
 go_ret
 exact ⟨by first | rfl | (simp [errW_none, errW_some] <;> rfl) | (simp [*, errW_none, errW_some] <;> rfl), by repeat (first | (with_reducible first | exact HB.out | apply below_alloc | apply pw_below_drewN | apply below_drew1 | refine below_set ?_ GE288.out | refine below_set ?_ GE289.out) | exact HB.out)⟩

/-! ### pred_Same: function 39 (by hand) -/
def pred_Same.teq (x y : S44) : Bool := x.f0 == y.f0 && (x.f1 == y.f1 && (x.f2 == y.f2 && (x.f3.f0 == y.f3.f0 && (x.f3.f1 == y.f3.f1))))
mutual
def pred_Same.v : Nat → S46 → S46 → Option Bool
 | 0, _, _ => none
 | k + 1, a, b => if a.f0 = b.f0 ∧ a.f1 = b.f1 ∧ a.f2 = b.f2 ∧ pred_Same.teq a.f3 b.f3 = true ∧ pred_Same.teq a.f4 b.f4 = true then pred_Same.vf k a.f5 b.f5 else some false
def pred_Same.l0 : Nat → List S46 → List S46 → Int → Option Bool
 | 0, _, _, _ => none
 | k + 1, l, m, x => if x < (l.length : Int) then (if 0 ≤ x ∧ x < (m.length : Int) then ((pred_Same.v k (rd_T46 l x) (rd_T46 m x)).bind fun t => if t = true then pred_Same.l0 k l m (wrap64 (x + 1)) else some false) else none) else some true
def pred_Same.vf : Nat → List S46 → List S46 → Option Bool
 | 0, _, _ => none
 | k + 1, l, m => if (l.length : Int) = (m.length : Int) then pred_Same.l0 k l m 0 else some false
end
theorem pred_Same.mono_g : ∀ k, (∀ a b, LeO (pred_Same.v k a b) (pred_Same.v (k + 1) a b)) ∧ (∀ l m x, LeO (pred_Same.l0 k l m x) (pred_Same.l0 (k + 1) l m x)) ∧ (∀ l m, LeO (pred_Same.vf k l m) (pred_Same.vf (k + 1) l m))
 | 0 => ⟨fun _ _ _ h => by simp [pred_Same.v] at h, fun _ _ _ _ h => by simp [pred_Same.l0] at h, fun _ _ _ h => by simp [pred_Same.vf] at h⟩
 | k + 1 => by
  obtain ⟨i1, i2, i3⟩ := pred_Same.mono_g k
  refine ⟨fun a b => ?_, fun l m x => ?_, fun l m => ?_⟩
  ·unfold pred_Same.v; exact LeO.ite (i3 _ _) (LeO.refl _)
  ·unfold pred_Same.l0; exact LeO.ite (LeO.ite (LeO.bind (i1 _ _) (fun _ => LeO.ite (i2 _ _ _) (LeO.refl _))) (LeO.refl _)) (LeO.refl _)
  ·unfold pred_Same.vf; exact LeO.ite (i2 _ _ _) (LeO.refl _)
/-- What one predicate's Same tells, with so many rounds. -/
def pred_Same.Tells (v : S46 → S46 → Option Bool) : Prop := ∀ (a b : S46) (cl dl : List Value) (w : World) (r : Bool), k46.K w a cl → k46.K w b dl → v a b = some r →
 Calls Try.prog 39 #[.agg cl.toArray, .agg dl.toArray] w fun e w' => e = .returned (.bool r) ∧ Below w.heap.size w w'
theorem pred_Same.below_row {B g : Nat} {a w : World} (h : Below B a w) (hg : B ≤ g) (cs : Array Value) : Below B a (w.setRow g cs) :=
 h.trans ⟨rfl, rfl, rfl, by simp [World.setRow], fun k hk => by simp only [World.setRow, Array.getElem?_modify]; rw [if_neg (by omega)]⟩
theorem pred_Same.blk_row {g : Nat} {w : World} {t : TypeId} {old : Array Value} (h : w.heap[g]? = some (.cells old t (0, 0))) (cs : Array Value) : (w.setRow g cs).heap[g]? = some (.cells cs t (0, 0)) := by
 simp [World.setRow, Array.getElem?_modify, h]
theorem pred_Same.oth_row {g k : Nat} {w : World} {o : Obj} (h : w.heap[k]? = some o) (hne : k ≠ g) (cs : Array Value) : (w.setRow g cs).heap[k]? = some o := by
 simp only [World.setRow, Array.getElem?_modify]; rw [if_neg (fun e => hne e.symm)]; exact h
def pred_Same.z : Array Value := #[.int .i64 0, .int .i64 0, .int .i64 0, .int .i64 0, .int .i64 0, .int .i64 0, .bool false, .int .i64 0, .int .i64 0, .int .i64 0, .int .i64 0, .bool false, .int .i64 0, .slice none 0 0]
/-- A predicate's cells. -/
def pred_Same.cl (x : S46) (A : Option Addr) (c : Nat) : List Value := [.int .i64 x.f0, .int .i64 x.f1, .int .i64 x.f2, .int .i64 x.f3.f0, .int .i64 x.f3.f1, .int .i64 x.f3.f2, .bool x.f3.f3.f0, .int .i64 x.f3.f3.f1, .int .i64 x.f4.f0, .int .i64 x.f4.f1, .int .i64 x.f4.f2, .bool x.f4.f3.f0, .int .i64 x.f4.f3.f1, .slice A x.f5.length c]
theorem pred_Same.one (x : S46) (A : Option Addr) (c : Nat) : (pred_Same.cl x A c).toArray.all (·.oneCell') = true := by simp [pred_Same.cl, Value.oneCell']
set_option maxHeartbeats 8000000 in
set_option maxRecDepth 100000 in
theorem pred_Same.eqf {k : Nat} (hS : ∀ j, j < k → pred_Same.Tells (pred_Same.v j)) (l m : List S46) (A A' : Option Addr) (c c' : Nat) (w : World) (r : Bool) (h1 : Kd.C k46 w A l.length l) (h2 : Kd.C k46 w A' m.length m)
  (h : pred_Same.vf k l m = some r) :
  Calls Try.prog 52 #[.slice A l.length c, .slice A' m.length c', .func (.func 39) #[] #[]] w fun e w' => e = .returned (.bool r) ∧ Below w.heap.size w w' := by
 have hu46 := Try.underlying46
 have hi46 : (Try.prog.info? 46).map (·.size) = some 14 := by kernel_rfl
 have HB := Aside0.mk (Below.refl w.heap.size w)
 cases k with
 | zero => exact absurd h (by simp [pred_Same.vf])
 | succ k =>
 rw [pred_Same.vf] at h
 by_cases hl : (l.length : Int) = (m.length : Int)
 ·rw [if_pos hl] at h
  have HH := Aside0.mk h
  clear h
  have c1 : ((l.length : Int) != (m.length : Int)) = false := by simpa using hl
  clear hl
  go_enter Try.func52, Try.ntmps52
  go_wp2
  go_loopg [17] k (fun kq v17 w' => ∃ x : Int, v17 = .int .i64 x ∧ Aside0 (kq ≤ k) ∧ Aside0 (pred_Same.l0 kq l m x = some r) ∧ Aside0 (Below w.heap.size w w'))
  case atStart => exact ⟨0, rfl, ⟨Nat.le_refl _⟩, ⟨by exact HH.out⟩, ⟨by exact HB.out⟩⟩
  case round =>
   clear HB HH
   obtain ⟨x, rfl, HI, HH, HB⟩ := hrel
   cases gk with
   | zero => exact absurd HH.out (by simp [pred_Same.l0])
   | succ kk =>
   have HV := HH.out
   clear HH
   rw [pred_Same.l0] at HV
   by_cases hx : x < (l.length : Int)
   ·have ci : decide (x < (l.length : Int)) = true := by simpa using hx
    rw [if_pos hx] at HV
    by_cases hq : 0 ≤ x ∧ x < (m.length : Int)
    ·rw [if_pos hq] at HV
     obtain ⟨t, hv, ht⟩ := Option.bind_eq_some_iff.1 HV
     have HT := Aside0.mk hv
     have HN := Aside0.mk ht
     clear HV hv ht
     obtain ⟨q0, lm⟩ := hq
     obtain ⟨ad, A13, c13, eA, x0, x1, x2, x3, x4, x5, x6, x7, x8, x9, x10, x11, x12, x13, lx, gx⟩ := at_T46 h1 x q0 hx
     obtain ⟨ad', A13', c13', eA', y0, y1, y2, y3, y4, y5, y6, y7, y8, y9, y10, y11, y12, y13, ly, gy⟩ := at_T46 h2 x q0 lm
     subst eA
     subst eA'
     have GX := Aside0.mk gx
     have GY := Aside0.mk gy
     clear gx gy
     replace x0 := (HB.out.cell (World.block_lt_of_cell? w _ x0)).trans x0
     replace x1 := (HB.out.cell (World.block_lt_of_cell? w _ x1)).trans x1
     replace x2 := (HB.out.cell (World.block_lt_of_cell? w _ x2)).trans x2
     replace x3 := (HB.out.cell (World.block_lt_of_cell? w _ x3)).trans x3
     replace x4 := (HB.out.cell (World.block_lt_of_cell? w _ x4)).trans x4
     replace x5 := (HB.out.cell (World.block_lt_of_cell? w _ x5)).trans x5
     replace x6 := (HB.out.cell (World.block_lt_of_cell? w _ x6)).trans x6
     replace x7 := (HB.out.cell (World.block_lt_of_cell? w _ x7)).trans x7
     replace x8 := (HB.out.cell (World.block_lt_of_cell? w _ x8)).trans x8
     replace x9 := (HB.out.cell (World.block_lt_of_cell? w _ x9)).trans x9
     replace x10 := (HB.out.cell (World.block_lt_of_cell? w _ x10)).trans x10
     replace x11 := (HB.out.cell (World.block_lt_of_cell? w _ x11)).trans x11
     replace x12 := (HB.out.cell (World.block_lt_of_cell? w _ x12)).trans x12
     replace x13 := (HB.out.cell (World.block_lt_of_cell? w _ x13)).trans x13
     have YY := Aside0.mk (And.intro y0 (And.intro y1 (And.intro y2 (And.intro y3 (And.intro y4 (And.intro y5 (And.intro y6 (And.intro y7 (And.intro y8 (And.intro y9 (And.intro y10 (And.intro y11 (And.intro y12 y13)))))))))))))
     clear y0 y1 y2 y3 y4 y5 y6 y7 y8 y9 y10 y11 y12 y13
     go_upto_region 6 with (first
      | ((with_reducible refine gate_dst (N := 8) rfl ?_); refine box_event ?hg (N := 8) ?hd (cs := pred_Same.z) (t := 46) ?hr ?_; (case hd => rfl); (case hg => rfl); (case hr => first | (go_simp; done) | (go_simp; rfl)); intro g1 hg w4 hbox hb; have G1 := Aside0.mk (show w.heap.size ≤ g1 by rw [hg]; exact below_size HB.out); have HB2 := Aside0.mk (below_step HB.out hb); clear hb hg)
      | ((with_reducible refine gate_store (t := 46) (p := 8) rfl ?_); refine wpList_store_row rfl 46 (.tmp 8) (.tmp 21) rfl g1 (pred_Same.cl (rd_T46 l x) A13 c13).toArray rfl rfl 46 pred_Same.z hbox hi46 rfl (pred_Same.one _ _ _) ?_; have B1 := Aside0.mk (pred_Same.blk_row hbox (pred_Same.cl (rd_T46 l x) A13 c13).toArray); have HB3 := Aside0.mk (pred_Same.below_row HB2.out G1.out (pred_Same.cl (rd_T46 l x) A13 c13).toArray); clear hbox HB HB2; generalize w4.setRow g1 (pred_Same.cl (rd_T46 l x) A13 c13).toArray = W1 at *))
     clear x0 x1 x2 x3 x4 x5 x6 x7 x8 x9 x10 x11 x12 x13
     obtain ⟨y0, y1, y2, y3, y4, y5, y6, y7, y8, y9, y10, y11, y12, y13⟩ := YY.out
     replace y0 := (HB3.out.cell (World.block_lt_of_cell? w _ y0)).trans y0
     replace y1 := (HB3.out.cell (World.block_lt_of_cell? w _ y1)).trans y1
     replace y2 := (HB3.out.cell (World.block_lt_of_cell? w _ y2)).trans y2
     replace y3 := (HB3.out.cell (World.block_lt_of_cell? w _ y3)).trans y3
     replace y4 := (HB3.out.cell (World.block_lt_of_cell? w _ y4)).trans y4
     replace y5 := (HB3.out.cell (World.block_lt_of_cell? w _ y5)).trans y5
     replace y6 := (HB3.out.cell (World.block_lt_of_cell? w _ y6)).trans y6
     replace y7 := (HB3.out.cell (World.block_lt_of_cell? w _ y7)).trans y7
     replace y8 := (HB3.out.cell (World.block_lt_of_cell? w _ y8)).trans y8
     replace y9 := (HB3.out.cell (World.block_lt_of_cell? w _ y9)).trans y9
     replace y10 := (HB3.out.cell (World.block_lt_of_cell? w _ y10)).trans y10
     replace y11 := (HB3.out.cell (World.block_lt_of_cell? w _ y11)).trans y11
     replace y12 := (HB3.out.cell (World.block_lt_of_cell? w _ y12)).trans y12
     replace y13 := (HB3.out.cell (World.block_lt_of_cell? w _ y13)).trans y13
     go_upto_region 7 with (first
      | ((with_reducible refine gate_dst (N := 9) rfl ?_); refine box_event ?hg (N := 9) ?hd (cs := pred_Same.z) (t := 46) ?hr ?_; (case hd => rfl); (case hg => rfl); (case hr => first | (go_simp; done) | (go_simp; rfl)); intro g2 hg w5 hbox hb; have G2 := Aside0.mk (show w.heap.size ≤ g2 by rw [hg]; exact below_size HB3.out); have N12 := Aside0.mk (show g1 ≠ g2 by rw [hg]; exact Nat.ne_of_lt (blk_lt B1.out)); have B1' := Aside0.mk (blk_below B1.out hb); have HB4 := Aside0.mk (below_step HB3.out hb); clear hb hg)
      | ((with_reducible refine gate_store (t := 46) (p := 9) rfl ?_); refine wpList_store_row rfl 46 (.tmp 9) (.tmp 25) rfl g2 (pred_Same.cl (rd_T46 m x) A13' c13').toArray rfl rfl 46 pred_Same.z hbox hi46 rfl (pred_Same.one _ _ _) ?_; have B2 := Aside0.mk (pred_Same.blk_row hbox (pred_Same.cl (rd_T46 m x) A13' c13').toArray); have C1 := Aside0.mk (pred_Same.oth_row B1'.out N12.out (pred_Same.cl (rd_T46 m x) A13' c13').toArray); have HB5 := Aside0.mk (pred_Same.below_row HB4.out G2.out (pred_Same.cl (rd_T46 m x) A13' c13').toArray); clear hbox HB3 HB4 B1 B1'; generalize w5.setRow g2 (pred_Same.cl (rd_T46 m x) A13' c13').toArray = W2 at *))
     clear y0 y1 y2 y3 y4 y5 y6 y7 y8 y9 y10 y11 y12 y13
     have q1 := blk_cell C1.out
     have q2 := blk_cell B2.out
     unfold pred_Same.cl at q1 q2
     have HC := Aside0.mk (hS kk (by have := HI.out; omega) (rd_T46 l x) (rd_T46 m x) _ _ W2 t (k46_mk W2 (rd_T46 l x) lx (Kd.C_below GX.out HB5.out)) (k46_mk W2 (rd_T46 m x) ly (Kd.C_below GY.out HB5.out)) HT.out)
     cases t with
     | false =>
      obtain rfl := Option.some.inj HN.out
      go_wp2_with (go_at_call 39; refine HC.out.mono ?_; rintro e w6 ⟨rfl, hb⟩; have HB6 := Aside0.mk (below_step HB5.out hb); clear hb)
      go_ret
      exact ⟨rfl, HB6.out⟩
     | true =>
      go_wp2_with (go_at_call 39; refine HC.out.mono ?_; rintro e w6 ⟨rfl, hb⟩; have HB6 := Aside0.mk (below_step HB5.out hb); clear hb)
      go_roundg kk
      case measure => omega
      case rel => exact ⟨wrap64 (x + 1), (by first | rfl | (simp; done) | (simp [i64_w]; done)), ⟨by have := HI.out; omega⟩, ⟨by exact HN.out⟩, ⟨by exact HB6.out⟩⟩
    ·rw [if_neg hq] at HV; cases HV
   ·have ci : decide (x < (l.length : Int)) = false := by simpa using hx
    rw [if_neg hx] at HV
    obtain rfl := Option.some.inj HV
    go_wp2
    go_ret
    exact ⟨rfl, HB.out⟩
 ·rw [if_neg hl] at h
  obtain rfl := Option.some.inj h
  have c1 : ((l.length : Int) != (m.length : Int)) = true := by simpa using hl
  go_enter Try.func52, Try.ntmps52
  go_wp2
  go_ret
  exact ⟨rfl, HB.out⟩

set_option maxHeartbeats 8000000 in
set_option maxRecDepth 100000 in
theorem pred_Same.tells : ∀ k, pred_Same.Tells (pred_Same.v k) := by
 intro k
 induction k using Nat.strongRecOn with
 | _ k ih =>
 intro a b cl dl w r hK hL h
 cases k with
 | zero => exact absurd h (by simp [pred_Same.v])
 | succ k =>
 rw [pred_Same.v] at h
 obtain ⟨A, c, rfl, lx, gx⟩ := k46_open hK
 obtain ⟨A', c', rfl, ly, gy⟩ := k46_open hL
 clear hK hL
 have hu46 := Try.underlying46
 have hu44 := Try.underlying44
 have hu42 := Try.underlying42
 have HB := Aside0.mk (Below.refl w.heap.size w)
 have GX := Aside0.mk gx
 have GY := Aside0.mk gy
 have HH := Aside0.mk h
 clear gx gy h lx ly
 go_enter Try.func39, Try.ntmps39
 go_upto_region 1 with (first
  | ((with_reducible refine gate_dst (N := 2) rfl ?_); refine box_event ?hg (N := 2) ?hd (cs := (pred_Same.cl a A c).toArray) (t := 46) ?hr ?_; (case hd => rfl); (case hg => rfl); (case hr => first | (go_simp; done) | (go_simp; rfl)); intro g1 hg w4 hbox hb; have HB1 := Aside0.mk (below_step HB.out hb); have B1 := Aside0.mk hbox; clear hb hg hbox)
  | ((with_reducible refine gate_dst (N := 3) rfl ?_); refine box_event ?hg (N := 3) ?hd (cs := (pred_Same.cl b A' c').toArray) (t := 46) ?hr ?_; (case hd => rfl); (case hg => rfl); (case hr => first | (go_simp; done) | (go_simp; rfl)); intro g2 hg w5 hbox hb; have B1a := Aside0.mk (blk_below B1.out hb); have HB2 := Aside0.mk (below_step HB1.out hb); have B2 := Aside0.mk hbox; clear hb hg hbox))
 have q1 := blk_cell B1a.out
 have q2 := blk_cell B2.out
 unfold pred_Same.cl at q1 q2
 by_cases e0 : a.f0 = b.f0
 ·have c0 : (a.f0 == b.f0) = true := by simpa using e0
  by_cases e1 : a.f1 = b.f1
  ·have c1 : (a.f1 == b.f1) = true := by simpa using e1
   by_cases e2 : a.f2 = b.f2
   ·have c2 : (a.f2 == b.f2) = true := by simpa using e2
    cases h3 : pred_Same.teq a.f3 b.f3 with
    | false =>
     have HR := HH.out
     rw [if_neg (by rw [h3]; simp)] at HR
     obtain rfl := Option.some.inj HR
     clear HR e0 e1 e2
     go_wp2_with (go_at_call 76; refine (term_Same.calls _ _ _ _ _ _ _ _ _ _ (pred_Same.teq a.f3 b.f3) _ rfl).mono ?_; rintro e w6 ⟨rfl, hb⟩; have HB3 := Aside0.mk (below_step HB2.out hb); have B3 := Aside0.mk (blk_below B2.out hb); have B1x := Aside0.mk (blk_below B1a.out hb); clear hb; have q3 := blk_cell B1x.out; have q4 := blk_cell B3.out; unfold pred_Same.cl at q3 q4; rw [h3])
     go_ret
     exact ⟨rfl, HB3.out⟩
    | true =>
     cases h4 : pred_Same.teq a.f4 b.f4 with
     | false =>
      have HR := HH.out
      rw [if_neg (by rw [h4]; simp)] at HR
      obtain rfl := Option.some.inj HR
      clear HR e0 e1 e2
      go_wp2_with (first | (go_at_call 76; refine (term_Same.calls _ _ _ _ _ _ _ _ _ _ (pred_Same.teq a.f3 b.f3) _ rfl).mono ?_; rintro e w6 ⟨rfl, hb⟩; have HB3 := Aside0.mk (below_step HB2.out hb); have B3 := Aside0.mk (blk_below B2.out hb); have B1x := Aside0.mk (blk_below B1a.out hb); clear hb; have q3 := blk_cell B1x.out; have q4 := blk_cell B3.out; unfold pred_Same.cl at q3 q4; rw [h3]) | (go_at_call 76; refine (term_Same.calls _ _ _ _ _ _ _ _ _ _ (pred_Same.teq a.f4 b.f4) _ rfl).mono ?_; rintro e w7 ⟨rfl, hb⟩; have HB4 := Aside0.mk (below_step HB3.out hb); have B4 := Aside0.mk (blk_below B3.out hb); have B1y := Aside0.mk (blk_below B1x.out hb); clear hb; have q5 := blk_cell B1y.out; have q6 := blk_cell B4.out; unfold pred_Same.cl at q5 q6; rw [h4]))
      go_ret
      exact ⟨rfl, HB4.out⟩
     | true =>
      have HR := HH.out
      rw [if_pos ⟨e0, e1, e2, h3, h4⟩] at HR
      have HE := Aside0.mk HR
      clear HR e0 e1 e2
      go_wp2_with (first | (go_at_call 76; refine (term_Same.calls _ _ _ _ _ _ _ _ _ _ (pred_Same.teq a.f3 b.f3) _ rfl).mono ?_; rintro e w6 ⟨rfl, hb⟩; have HB3 := Aside0.mk (below_step HB2.out hb); have B3 := Aside0.mk (blk_below B2.out hb); have B1x := Aside0.mk (blk_below B1a.out hb); clear hb; have q3 := blk_cell B1x.out; have q4 := blk_cell B3.out; unfold pred_Same.cl at q3 q4; rw [h3]) | (go_at_call 76; refine (term_Same.calls _ _ _ _ _ _ _ _ _ _ (pred_Same.teq a.f4 b.f4) _ rfl).mono ?_; rintro e w7 ⟨rfl, hb⟩; have HB4 := Aside0.mk (below_step HB3.out hb); have B4 := Aside0.mk (blk_below B3.out hb); have B1y := Aside0.mk (blk_below B1x.out hb); clear hb; have q5 := blk_cell B1y.out; have q6 := blk_cell B4.out; unfold pred_Same.cl at q5 q6; rw [h4]) | (go_at_call 52; refine (pred_Same.eqf (fun j hj => ih j (by omega)) a.f5 b.f5 A A' c c' _ r (Kd.C_below GX.out HB4.out) (Kd.C_below GY.out HB4.out) HE.out).mono ?_; rintro e w8 ⟨rfl, hb⟩; have HB5 := Aside0.mk (below_step HB4.out hb); clear hb))
      go_ret
      exact ⟨rfl, HB5.out⟩
   ·have c2 : (a.f2 == b.f2) = false := by simpa using e2
    have HR := HH.out
    rw [if_neg (fun z => e2 z.2.2.1)] at HR
    obtain rfl := Option.some.inj HR
    clear HR e0 e1 e2
    go_wp2
    go_ret
    exact ⟨rfl, HB2.out⟩
  ·have c1 : (a.f1 == b.f1) = false := by simpa using e1
   have HR := HH.out
   rw [if_neg (fun z => e1 z.2.1)] at HR
   obtain rfl := Option.some.inj HR
   clear HR e0 e1
   go_wp2
   go_ret
   exact ⟨rfl, HB2.out⟩
 ·have c0 : (a.f0 == b.f0) = false := by simpa using e0
  have HR := HH.out
  rw [if_neg (fun z => e0 z.1)] at HR
  obtain rfl := Option.some.inj HR
  clear HR e0
  go_wp2
  go_ret
  exact ⟨rfl, HB2.out⟩
def pred_Same.f (k : Nat) (a0_0 : Int) (a0_1 : Int) (a0_2 : Int) (a0_3 : Int) (a0_4 : Int) (a0_5 : Int) (a0_6 : Bool) (a0_7 : Int) (a0_8 : Int) (a0_9 : Int) (a0_10 : Int) (a0_11 : Bool) (a0_12 : Int) (l0_13 : List S46) (a1_0 : Int) (a1_1 : Int) (a1_2 : Int) (a1_3 : Int) (a1_4 : Int) (a1_5 : Int) (a1_6 : Bool) (a1_7 : Int) (a1_8 : Int) (a1_9 : Int) (a1_10 : Int) (a1_11 : Bool) (a1_12 : Int) (l1_13 : List S46) : Option Bool := pred_Same.v k (⟨a0_0, a0_1, a0_2, ⟨a0_3, a0_4, a0_5, ⟨a0_6, a0_7⟩⟩, ⟨a0_8, a0_9, a0_10, ⟨a0_11, a0_12⟩⟩, l0_13⟩ : S46) (⟨a1_0, a1_1, a1_2, ⟨a1_3, a1_4, a1_5, ⟨a1_6, a1_7⟩⟩, ⟨a1_8, a1_9, a1_10, ⟨a1_11, a1_12⟩⟩, l1_13⟩ : S46)
theorem pred_Same.mono : ∀ a0 a1 a2 a3 a4 a5 a6 a7 a8 a9 a10 a11 a12 a13 a14 a15 a16 a17 a18 a19 a20 a21 a22 a23 a24 a25 a26 a27 k, LeO (pred_Same.f k a0 a1 a2 a3 a4 a5 a6 a7 a8 a9 a10 a11 a12 a13 a14 a15 a16 a17 a18 a19 a20 a21 a22 a23 a24 a25 a26 a27) (pred_Same.f (k + 1) a0 a1 a2 a3 a4 a5 a6 a7 a8 a9 a10 a11 a12 a13 a14 a15 a16 a17 a18 a19 a20 a21 a22 a23 a24 a25 a26 a27) := fun _ _ _ _ _ _ _ _ _ _ _ _ _ _ _ _ _ _ _ _ _ _ _ _ _ _ _ _ k => (pred_Same.mono_g k).1 _ _
theorem pred_Same.calls (k : Nat) : ∀ (a0_0 : Int) (a0_1 : Int) (a0_2 : Int) (a0_3 : Int) (a0_4 : Int) (a0_5 : Int) (a0_6 : Bool) (a0_7 : Int) (a0_8 : Int) (a0_9 : Int) (a0_10 : Int) (a0_11 : Bool) (a0_12 : Int) (A0_13 : Option Addr) (c0_13 : Nat) (l0_13 : List S46) (a1_0 : Int) (a1_1 : Int) (a1_2 : Int) (a1_3 : Int) (a1_4 : Int) (a1_5 : Int) (a1_6 : Bool) (a1_7 : Int) (a1_8 : Int) (a1_9 : Int) (a1_10 : Int) (a1_11 : Bool) (a1_12 : Int) (A1_13 : Option Addr) (c1_13 : Nat) (l1_13 : List S46) (r : Bool) (w : World) (hr0_13 : Kd.C k46 w A0_13 l0_13.length l0_13) (hc0_13 : l0_13.length ≤ c0_13) (hr1_13 : Kd.C k46 w A1_13 l1_13.length l1_13) (hc1_13 : l1_13.length ≤ c1_13) (h : pred_Same.f k a0_0 a0_1 a0_2 a0_3 a0_4 a0_5 a0_6 a0_7 a0_8 a0_9 a0_10 a0_11 a0_12 l0_13 a1_0 a1_1 a1_2 a1_3 a1_4 a1_5 a1_6 a1_7 a1_8 a1_9 a1_10 a1_11 a1_12 l1_13 = some r),
  Calls Try.prog 39 #[.agg #[.int .i64 a0_0, .int .i64 a0_1, .int .i64 a0_2, .int .i64 a0_3, .int .i64 a0_4, .int .i64 a0_5, .bool a0_6, .int .i64 a0_7, .int .i64 a0_8, .int .i64 a0_9, .int .i64 a0_10, .bool a0_11, .int .i64 a0_12, .slice A0_13 l0_13.length c0_13], .agg #[.int .i64 a1_0, .int .i64 a1_1, .int .i64 a1_2, .int .i64 a1_3, .int .i64 a1_4, .int .i64 a1_5, .bool a1_6, .int .i64 a1_7, .int .i64 a1_8, .int .i64 a1_9, .int .i64 a1_10, .bool a1_11, .int .i64 a1_12, .slice A1_13 l1_13.length c1_13]] w fun e w' => e = .returned (.bool r) ∧ Below w.heap.size w w' := by
 intro a0_0 a0_1 a0_2 a0_3 a0_4 a0_5 a0_6 a0_7 a0_8 a0_9 a0_10 a0_11 a0_12 A0_13 c0_13 l0_13 a1_0 a1_1 a1_2 a1_3 a1_4 a1_5 a1_6 a1_7 a1_8 a1_9 a1_10 a1_11 a1_12 A1_13 c1_13 l1_13 r w hr0 hc0 hr1 hc1 h
 exact pred_Same.tells k (⟨a0_0, a0_1, a0_2, ⟨a0_3, a0_4, a0_5, ⟨a0_6, a0_7⟩⟩, ⟨a0_8, a0_9, a0_10, ⟨a0_11, a0_12⟩⟩, l0_13⟩ : S46) (⟨a1_0, a1_1, a1_2, ⟨a1_3, a1_4, a1_5, ⟨a1_6, a1_7⟩⟩, ⟨a1_8, a1_9, a1_10, ⟨a1_11, a1_12⟩⟩, l1_13⟩ : S46) _ _ w r (k46_mk w (⟨a0_0, a0_1, a0_2, ⟨a0_3, a0_4, a0_5, ⟨a0_6, a0_7⟩⟩, ⟨a0_8, a0_9, a0_10, ⟨a0_11, a0_12⟩⟩, l0_13⟩ : S46) hc0 hr0) (k46_mk w (⟨a1_0, a1_1, a1_2, ⟨a1_3, a1_4, a1_5, ⟨a1_6, a1_7⟩⟩, ⟨a1_8, a1_9, a1_10, ⟨a1_11, a1_12⟩⟩, l1_13⟩ : S46) hc1 hr1) h

/-! ### pred_Copy: function 41 -/
mutual
def pred_Copy.l0 : Nat → List (S46) → List (S46) → Int → Int → Int → Int → Int → Int → Int → Int → Bool → Int → Int → Int → Int → Bool → Int → List (S46) → Option (Int × Int × Int × Int × Int × Int × Bool × Int × Int × Int × Int × Bool × Int × (List (S46)))
 | 0, _, _, _, _, _, _, _, _, _, _, _, _, _, _, _, _, _, _ => none
 | k + 1, x3, x7, x8, x9, x291000, x291001, x291002, x291003, x291004, x291005, x291006, x291007, x291008, x291009, x291010, x291011, x291012, x291013 => if x9 < x8 then (if 0 ≤ x9 then (if x9 < (x7.length : Int) then ((pred_Copy.f k ((rd_T46 x7 x9).f0) ((rd_T46 x7 x9).f1) ((rd_T46 x7 x9).f2) ((rd_T46 x7 x9).f3.f0) ((rd_T46 x7 x9).f3.f1) ((rd_T46 x7 x9).f3.f2) ((rd_T46 x7 x9).f3.f3.f0) ((rd_T46 x7 x9).f3.f3.f1) ((rd_T46 x7 x9).f4.f0) ((rd_T46 x7 x9).f4.f1) ((rd_T46 x7 x9).f4.f2) ((rd_T46 x7 x9).f4.f3.f0) ((rd_T46 x7 x9).f4.f3.f1) ((rd_T46 x7 x9).f5)).bind fun bt294 => (if x3.length < 1099511627776 then (pred_Copy.l0 k (x3 ++ [(⟨bt294.1, bt294.2.1, bt294.2.2.1, (⟨bt294.2.2.2.1, bt294.2.2.2.2.1, bt294.2.2.2.2.2.1, (⟨bt294.2.2.2.2.2.2.1, bt294.2.2.2.2.2.2.2.1⟩ : S42)⟩ : S44), (⟨bt294.2.2.2.2.2.2.2.2.1, bt294.2.2.2.2.2.2.2.2.2.1, bt294.2.2.2.2.2.2.2.2.2.2.1, (⟨bt294.2.2.2.2.2.2.2.2.2.2.2.1, bt294.2.2.2.2.2.2.2.2.2.2.2.2.1⟩ : S42)⟩ : S44), bt294.2.2.2.2.2.2.2.2.2.2.2.2.2⟩ : S46)]) x7 x8 (wrap64 (x9 + 1)) x291000 x291001 x291002 x291003 x291004 x291005 x291006 x291007 x291008 x291009 x291010 x291011 x291012 x291013) else (none))) else (none)) else (none)) else (some (x291000, x291001, x291002, x291003, x291004, x291005, x291006, x291007, x291008, x291009, x291010, x291011, x291012, x3))
def pred_Copy.f : Nat → Int → Int → Int → Int → Int → Int → Bool → Int → Int → Int → Int → Bool → Int → List (S46) → Option (Int × Int × Int × Int × Int × Int × Bool × Int × Int × Int × Int × Bool × Int × (List (S46)))
 | 0, _, _, _, _, _, _, _, _, _, _, _, _, _, _ => none
 | k + 1, a0_0, a0_1, a0_2, a0_3, a0_4, a0_5, a0_6, a0_7, a0_8, a0_9, a0_10, a0_11, a0_12, l0_13 => pred_Copy.l0 k ([] : List (S46)) l0_13 (l0_13.length : Int) 0 a0_0 a0_1 a0_2 a0_3 a0_4 a0_5 a0_6 a0_7 a0_8 a0_9 a0_10 a0_11 a0_12 l0_13
end
theorem pred_Copy.mono_l : ∀ k, (∀ y0 y1 y2 y3 y4 y5 y6 y7 y8 y9 y10 y11 y12 y13, LeO (pred_Copy.f k y0 y1 y2 y3 y4 y5 y6 y7 y8 y9 y10 y11 y12 y13) (pred_Copy.f (k + 1) y0 y1 y2 y3 y4 y5 y6 y7 y8 y9 y10 y11 y12 y13)) ∧ (∀ y0 y1 y2 y3 y4 y5 y6 y7 y8 y9 y10 y11 y12 y13 y14 y15 y16 y17, LeO (pred_Copy.l0 k y0 y1 y2 y3 y4 y5 y6 y7 y8 y9 y10 y11 y12 y13 y14 y15 y16 y17) (pred_Copy.l0 (k + 1) y0 y1 y2 y3 y4 y5 y6 y7 y8 y9 y10 y11 y12 y13 y14 y15 y16 y17))
 | 0 => ⟨fun _ _ _ _ _ _ _ _ _ _ _ _ _ _ r h => by simp [pred_Copy.f] at h, fun _ _ _ _ _ _ _ _ _ _ _ _ _ _ _ _ _ _ r h => by simp [pred_Copy.l0] at h⟩
 | k + 1 => by
  obtain ⟨ih0, ih1⟩ := pred_Copy.mono_l k
  refine ⟨?_, ?_⟩
  ·intro y0 y1 y2 y3 y4 y5 y6 y7 y8 y9 y10 y11 y12 y13
   unfold pred_Copy.f
   repeat' first
   | (with_reducible exact ih0 _ _ _ _ _ _ _ _ _ _ _ _ _ _)
   | (with_reducible exact ih1 _ _ _ _ _ _ _ _ _ _ _ _ _ _ _ _ _ _)
   | (with_reducible exact LeO.refl _)
   | (with_reducible exact LeO.none _)
   | (with_reducible refine LeO.ite ?_ ?_)
   | (with_reducible refine LeO.bind ?_ (fun _ => ?_))
   | exact ih0 _ _ _ _ _ _ _ _ _ _ _ _ _ _
   | exact ih1 _ _ _ _ _ _ _ _ _ _ _ _ _ _ _ _ _ _
   | exact LeO.none _
   | refine LeO.ite ?_ ?_
   | refine LeO.bind ?_ (fun _ => ?_)
  ·intro y0 y1 y2 y3 y4 y5 y6 y7 y8 y9 y10 y11 y12 y13 y14 y15 y16 y17
   unfold pred_Copy.l0
   repeat' first
   | (with_reducible exact ih0 _ _ _ _ _ _ _ _ _ _ _ _ _ _)
   | (with_reducible exact ih1 _ _ _ _ _ _ _ _ _ _ _ _ _ _ _ _ _ _)
   | (with_reducible exact LeO.refl _)
   | (with_reducible exact LeO.none _)
   | (with_reducible refine LeO.ite ?_ ?_)
   | (with_reducible refine LeO.bind ?_ (fun _ => ?_))
   | exact ih0 _ _ _ _ _ _ _ _ _ _ _ _ _ _
   | exact ih1 _ _ _ _ _ _ _ _ _ _ _ _ _ _ _ _ _ _
   | exact LeO.none _
   | refine LeO.ite ?_ ?_
   | refine LeO.bind ?_ (fun _ => ?_)
theorem pred_Copy.mono : ∀ a0 a1 a2 a3 a4 a5 a6 a7 a8 a9 a10 a11 a12 a13 k, LeO (pred_Copy.f k a0 a1 a2 a3 a4 a5 a6 a7 a8 a9 a10 a11 a12 a13) (pred_Copy.f (k + 1) a0 a1 a2 a3 a4 a5 a6 a7 a8 a9 a10 a11 a12 a13) := by
 intro a0 a1 a2 a3 a4 a5 a6 a7 a8 a9 a10 a11 a12 a13 k
 obtain ⟨ih0, ih1⟩ := pred_Copy.mono_l k
 exact ih0 a0 a1 a2 a3 a4 a5 a6 a7 a8 a9 a10 a11 a12 a13
set_option maxHeartbeats 8000000 in
set_option maxRecDepth 100000 in
theorem pred_Copy.calls (k : Nat) : ∀ (a0_0 : Int) (a0_1 : Int) (a0_2 : Int) (a0_3 : Int) (a0_4 : Int) (a0_5 : Int) (a0_6 : Bool) (a0_7 : Int) (a0_8 : Int) (a0_9 : Int) (a0_10 : Int) (a0_11 : Bool) (a0_12 : Int) (A0_13 : Option Addr) (c0_13 : Nat) (l0_13 : List (S46)) (r1 : Int) (r2 : Int) (r3 : Int) (r4 : Int) (r5 : Int) (r6 : Int) (r7 : Bool) (r8 : Int) (r9 : Int) (r10 : Int) (r11 : Int) (r12 : Bool) (r13 : Int) (r14 : List (S46)) (w : World) (hr0_13 : Kd.C k46 w A0_13 l0_13.length l0_13) (hc0_13 : l0_13.length ≤ c0_13) (h : pred_Copy.f k a0_0 a0_1 a0_2 a0_3 a0_4 a0_5 a0_6 a0_7 a0_8 a0_9 a0_10 a0_11 a0_12 l0_13 = some (r1, r2, r3, r4, r5, r6, r7, r8, r9, r10, r11, r12, r13, r14)),
  Calls Try.prog 41 #[.agg #[.int .i64 a0_0, .int .i64 a0_1, .int .i64 a0_2, .int .i64 a0_3, .int .i64 a0_4, .int .i64 a0_5, .bool a0_6, .int .i64 a0_7, .int .i64 a0_8, .int .i64 a0_9, .int .i64 a0_10, .bool a0_11, .int .i64 a0_12, .slice A0_13 l0_13.length c0_13]] w fun e w' => ∃ v13_ : Value, e = .returned (.agg #[.int .i64 r1, .int .i64 r2, .int .i64 r3, .int .i64 r4, .int .i64 r5, .int .i64 r6, .bool r7, .int .i64 r8, .int .i64 r9, .int .i64 r10, .int .i64 r11, .bool r12, .int .i64 r13, v13_]) ∧ Kd.R k46 46 w' w.heap.size (fun _ => True) v13_ r14 ∧ Below w.heap.size w w' := by
 induction k using Nat.strongRecOn with
 | _ k ih =>
 intro a0_0 a0_1 a0_2 a0_3 a0_4 a0_5 a0_6 a0_7 a0_8 a0_9 a0_10 a0_11 a0_12 A0_13 c0_13 l0_13 r1 r2 r3 r4 r5 r6 r7 r8 r9 r10 r11 r12 r13 r14 w hr0_13 hc0_13 h
 cases k with
 | zero => exact absurd h (by simp [pred_Copy.f])
 | succ k =>
 simp only [pred_Copy.f] at h
 have hu46 := Try.underlying46
 have HR0_13 := Aside0.mk hr0_13
 have HC0_13 := Aside0.mk hc0_13
 clear hr0_13 hc0_13
 have HB := Aside0.mk (Below.refl w.heap.size w)
 have H : (pred_Copy.l0 k ([] : List (S46)) l0_13 (l0_13.length : Int) 0 a0_0 a0_1 a0_2 a0_3 a0_4 a0_5 a0_6 a0_7 a0_8 a0_9 a0_10 a0_11 a0_12 l0_13) = some (r1, r2, r3, r4, r5, r6, r7, r8, r9, r10, r11, r12, r13, r14) := h
 clear h
 have H' := Aside0.mk H
 clear H
 go_enter Try.func41, Try.ntmps41
 go_wp2_with (first | ((with_reducible refine gate_dst (N := 1) rfl ?_); refine box_event ?hg (N := 1) ?hd (cs := #[.int .i64 a0_0, .int .i64 a0_1, .int .i64 a0_2, .int .i64 a0_3, .int .i64 a0_4, .int .i64 a0_5, .bool a0_6, .int .i64 a0_7, .int .i64 a0_8, .int .i64 a0_9, .int .i64 a0_10, .bool a0_11, .int .i64 a0_12, .slice A0_13 l0_13.length c0_13]) (t := 46) ?hr ?_; (case hd => rfl); (case hg => rfl); (case hr => first | (go_simp; done) | (go_simp; rfl)); intro gb290 hg w2 hbox hb; have n0_ := Aside0.mk (below_step (by repeat (first | (with_reducible first | exact HB.out | apply below_alloc | apply pw_below_drewN | apply below_drew1) | exact HB.out)) hb); have n1_ := Aside0.mk (hbox); have n2_ := Aside0.mk ((by rw [hg]; exact (below_size (by repeat (first | (with_reducible first | exact HB.out | apply below_alloc | apply pw_below_drewN | apply below_drew1) | exact HB.out))) : w.heap.size ≤ gb290)); have n3_ := n2_; clear HB; have HB := n0_; have BK290 := n1_; have GW290 := n2_; have GE290 := n3_; clear n0_ n1_ n2_ n3_; clear hb hbox hg) | ((with_reducible refine gate_dst (N := 2) rfl ?_); refine box_event ?hg (N := 2) ?hd (cs := #[.int .i64 0, .int .i64 0, .int .i64 0, .int .i64 0, .int .i64 0, .int .i64 0, .bool false, .int .i64 0, .int .i64 0, .int .i64 0, .int .i64 0, .bool false, .int .i64 0, .slice none 0 0]) (t := 46) ?hr ?_; (case hd => rfl); (case hg => rfl); (case hr => first | (go_simp; done) | (go_simp; rfl)); intro gb291 hg w3 hbox hb; have n0_ := Aside0.mk (blk_below (by (with_reducible repeat (first | refine blk_drewN ?_ _ | refine blk_drew ?_ | refine blk_alloc ?_ _)); exact BK290.out) hb); have n1_ := Aside0.mk (below_step (by repeat (first | (with_reducible first | exact HB.out | apply below_alloc | apply pw_below_drewN | apply below_drew1 | refine below_set ?_ GE290.out) | exact HB.out)) hb); have n2_ := Aside0.mk (hbox); have n3_ := Aside0.mk ((by rw [hg]; exact (below_size (by repeat (first | (with_reducible first | exact HB.out | apply below_alloc | apply pw_below_drewN | apply below_drew1 | refine below_set ?_ GE290.out) | exact HB.out))) : w.heap.size ≤ gb291)); have n4_ := n3_; have n5_ := Aside0.mk ((by rw [hg]; exact Nat.ne_of_lt (blk_lt (by (with_reducible repeat (first | refine blk_drewN ?_ _ | refine blk_drew ?_ | refine blk_alloc ?_ _)); exact BK290.out)) : gb290 ≠ gb291)); have n6_ := Aside0.mk ((by rw [hg]; exact Nat.ne_of_gt (blk_lt (by (with_reducible repeat (first | refine blk_drewN ?_ _ | refine blk_drew ?_ | refine blk_alloc ?_ _)); exact BK290.out)) : gb291 ≠ gb290)); clear BK290; clear HB; have BK290 := n0_; have HB := n1_; have BK291 := n2_; have GW291 := n3_; have GE291 := n4_; have NB290_291 := n5_; have NB291_290 := n6_; clear n0_ n1_ n2_ n3_ n4_ n5_ n6_; clear hb hbox hg; have hnb4 := NB290_291.out; have hnc4 := NB291_290.out; have hcz5 := blk_cell BK290.out; have hfz5 := blk_frozen BK290.out; have hfz5_13 := blk_frozen BK290.out 13))
 go_loopg [3, 9] k (fun kq v3 v9 w' => ∃ (x3_1 : List (S46)) (x9_1 : Int), v9 = .int .i64 x9_1 ∧ Aside0 (pred_Copy.l0 kq x3_1 l0_13 (l0_13.length : Int) x9_1 a0_0 a0_1 a0_2 a0_3 a0_4 a0_5 a0_6 a0_7 a0_8 a0_9 a0_10 a0_11 a0_12 l0_13 = some (r1, r2, r3, r4, r5, r6, r7, r8, r9, r10, r11, r12, r13, r14)) ∧ Aside0 (kq ≤ k) ∧ Aside0 (Kd.R k46 46 w' w.heap.size (fun k_ => k_ ≠ gb290 ∧ k_ ≠ gb291) v3 x3_1) ∧ Aside0 (w'.heap[gb290]? = some (.cells #[.int .i64 a0_0, .int .i64 a0_1, .int .i64 a0_2, .int .i64 a0_3, .int .i64 a0_4, .int .i64 a0_5, .bool a0_6, .int .i64 a0_7, .int .i64 a0_8, .int .i64 a0_9, .int .i64 a0_10, .bool a0_11, .int .i64 a0_12, (.slice A0_13 l0_13.length c0_13)] 46 (0, 0))) ∧ Aside0 (w'.heap[gb291]? = some (.cells #[.int .i64 0, .int .i64 0, .int .i64 0, .int .i64 0, .int .i64 0, .int .i64 0, .bool false, .int .i64 0, .int .i64 0, .int .i64 0, .int .i64 0, .bool false, .int .i64 0, (.slice none 0 0)] 46 (0, 0))) ∧ Aside0 (Below w.heap.size w w'))
 case atStart => exact ⟨(([] : List (S46))), (0), (by first | rfl | (simp; done) | (simp [*]; done) | (simp; decide)), H', ⟨Nat.le_refl _⟩, ⟨by first | exact Kd.R_nil _ _ _ _ _ | exact Kd.N_nil _ _ _ _ _ | exact Kd.V_nil _ _ _ _ _ | exact Kd.Q_nil _ _ _ _ _ | exact Kd.S_nil _ _ _ _ _⟩, ⟨by (with_reducible repeat (first | refine blk_drewN ?_ _ | refine blk_drew ?_ | refine blk_alloc ?_ _)); exact BK290.out⟩, ⟨by (with_reducible repeat (first | refine blk_drewN ?_ _ | refine blk_drew ?_ | refine blk_alloc ?_ _)); exact BK291.out⟩, ⟨by repeat (first | (with_reducible first | exact HB.out | apply below_alloc | apply pw_below_drewN | apply below_drew1 | refine below_set ?_ GE290.out | refine below_set ?_ GE291.out) | exact HB.out)⟩⟩
 case round =>
  clear H'
  try clear p2
  try clear c4
  try clear hcz5
  try clear hfz5
  try clear hfz5_13
  try clear hfz5
  obtain ⟨x3_1, x9_1, rfl, HA, HK1, HO_3, BK290, BK291, HB⟩ := hrel
  cases gk with
  | zero => exact absurd HA.out (by simp [pred_Copy.l0])
  | succ k1 =>
   have H := HA.out
   clear HA
   simp only [pred_Copy.l0] at H
   by_cases c6 : x9_1 < (l0_13.length : Int)
   ·rw [if_pos c6] at H
    have c6b0 : decide (x9_1 < (l0_13.length : Int)) = true := decide_eq_true c6
    clear c6
    by_cases c7 : 0 ≤ x9_1
    ·rw [if_pos c7] at H
     have c7b0 : decide (0 ≤ x9_1) = true := decide_eq_true c7
     clear c7
     by_cases c8 : x9_1 < (l0_13.length : Int)
     ·rw [if_pos c8] at H
      have c8b0 : decide (x9_1 < (l0_13.length : Int)) = true := decide_eq_true c8
      clear c8
      replace H := Option.bind_eq_some_iff.mp H
      obtain ⟨⟨t294, t295, t296, t297, t298, t299, t300, t301, t302, t303, t304, t305, t306, t307⟩, A90, H⟩ := H
      replace H : (if x3_1.length < 1099511627776 then (pred_Copy.l0 k1 (x3_1 ++ [(⟨t294, t295, t296, (⟨t297, t298, t299, (⟨t300, t301⟩ : S42)⟩ : S44), (⟨t302, t303, t304, (⟨t305, t306⟩ : S42)⟩ : S44), t307⟩ : S46)]) l0_13 (l0_13.length : Int) (wrap64 (x9_1 + 1)) a0_0 a0_1 a0_2 a0_3 a0_4 a0_5 a0_6 a0_7 a0_8 a0_9 a0_10 a0_11 a0_12 l0_13) else (none)) = some (r1, r2, r3, r4, r5, r6, r7, r8, r9, r10, r11, r12, r13, r14) := H
      have A9 := Aside0.mk A90
      clear A90
      by_cases c10 : x3_1.length < 1099511627776
      ·rw [if_pos c10] at H
       have LMc10 := Aside0.mk c10
       clear c10
       obtain ⟨y310, hy310⟩ : ∃ y_ : List (S46), y_ = (x3_1 ++ [(⟨t294, t295, t296, (⟨t297, t298, t299, (⟨t300, t301⟩ : S42)⟩ : S44), (⟨t302, t303, t304, (⟨t305, t306⟩ : S42)⟩ : S44), t307⟩ : S46)]) := ⟨_, rfl⟩
       replace H : (pred_Copy.l0 k1 y310 l0_13 (l0_13.length : Int) (wrap64 (x9_1 + 1)) a0_0 a0_1 a0_2 a0_3 a0_4 a0_5 a0_6 a0_7 a0_8 a0_9 a0_10 a0_11 a0_12 l0_13) = some (r1, r2, r3, r4, r5, r6, r7, r8, r9, r10, r11, r12, r13, r14) := by first | (rw [hy310]; with_reducible exact H) | (have H2_ := (Option.bind_some _ _).symm.trans H; rw [hy310]; with_reducible exact H2_) | (have H2_ := (Option.bind_some _ _).symm.trans H; with_reducible exact H2_) | with_reducible exact H | (rw [hy310]; exact H) | exact H
       have Ny310 := Aside0.mk hy310
       clear hy310
       have H' := Aside0.mk H
       clear H
       have p292 : 0 ≤ (x9_1 : Int) := of_decide_eq_true (by first | (with_reducible assumption) | assumption)
       have q292 : x9_1 < (l0_13.length : Int) := of_decide_eq_true (by first | (with_reducible assumption) | assumption)
       obtain ⟨ad292, A292_13, c292_13, e292, hx292_0, hx292_1, hx292_2, hx292_3, hx292_4, hx292_5, hx292_6, hx292_7, hx292_8, hx292_9, hx292_10, hx292_11, hx292_12, hx292_13, hl292_13, hi292_13⟩ := at_T46 HR0_13.out x9_1 p292 q292
       cases e292
       replace hx292_0 := (HB.out.cell (World.block_lt_of_cell? w _ hx292_0)).trans hx292_0
       replace hx292_1 := (HB.out.cell (World.block_lt_of_cell? w _ hx292_1)).trans hx292_1
       replace hx292_2 := (HB.out.cell (World.block_lt_of_cell? w _ hx292_2)).trans hx292_2
       replace hx292_3 := (HB.out.cell (World.block_lt_of_cell? w _ hx292_3)).trans hx292_3
       replace hx292_4 := (HB.out.cell (World.block_lt_of_cell? w _ hx292_4)).trans hx292_4
       replace hx292_5 := (HB.out.cell (World.block_lt_of_cell? w _ hx292_5)).trans hx292_5
       replace hx292_6 := (HB.out.cell (World.block_lt_of_cell? w _ hx292_6)).trans hx292_6
       replace hx292_7 := (HB.out.cell (World.block_lt_of_cell? w _ hx292_7)).trans hx292_7
       replace hx292_8 := (HB.out.cell (World.block_lt_of_cell? w _ hx292_8)).trans hx292_8
       replace hx292_9 := (HB.out.cell (World.block_lt_of_cell? w _ hx292_9)).trans hx292_9
       replace hx292_10 := (HB.out.cell (World.block_lt_of_cell? w _ hx292_10)).trans hx292_10
       replace hx292_11 := (HB.out.cell (World.block_lt_of_cell? w _ hx292_11)).trans hx292_11
       replace hx292_12 := (HB.out.cell (World.block_lt_of_cell? w _ hx292_12)).trans hx292_12
       replace hx292_13 := (HB.out.cell (World.block_lt_of_cell? w _ hx292_13)).trans hx292_13
       have HR292_13 := Aside0.mk hi292_13
       have HC292_13 := Aside0.mk hl292_13
       clear hi292_13 hl292_13
       replace p292 := eq_true p292
       replace q292 := eq_true q292
       go_wp2_with (first | ((with_reducible refine gate_dst (N := 5) rfl ?_); refine box_event ?hg (N := 5) ?hd (cs := #[.int .i64 0, .int .i64 0, .int .i64 0, .int .i64 0, .int .i64 0, .int .i64 0, .bool false, .int .i64 0, .int .i64 0, .int .i64 0, .int .i64 0, .bool false, .int .i64 0, .slice none 0 0]) (t := 46) ?hr ?_; (case hd => rfl); (case hg => rfl); (case hr => first | (go_simp; done) | (go_simp; rfl)); intro gb293 hg w11 hbox hb; have n0_ := Aside0.mk (Kd.R_below (Kd.R_elderB (by (with_reducible repeat (first | apply Kd.R_alloc | apply Kd.R_drewN | apply Kd.R_drew)); exact HO_3.out) gb293 (Nat.le_of_eq hg.symm)) hb); have n1_ := Aside0.mk (blk_below (by (with_reducible repeat (first | refine blk_drewN ?_ _ | refine blk_drew ?_ | refine blk_alloc ?_ _)); exact BK290.out) hb); have n2_ := Aside0.mk (blk_below (by (with_reducible repeat (first | refine blk_drewN ?_ _ | refine blk_drew ?_ | refine blk_alloc ?_ _)); exact BK291.out) hb); have n3_ := Aside0.mk (below_step (by repeat (first | (with_reducible first | exact HB.out | apply below_alloc | apply pw_below_drewN | apply below_drew1 | refine below_set ?_ GE290.out | refine below_set ?_ GE291.out) | exact HB.out)) hb); have n4_ := Aside0.mk (hbox); have n5_ := Aside0.mk ((by rw [hg]; exact (below_size (by repeat (first | (with_reducible first | exact HB.out | apply below_alloc | apply pw_below_drewN | apply below_drew1 | refine below_set ?_ GE290.out | refine below_set ?_ GE291.out) | exact HB.out))) : w.heap.size ≤ gb293)); have n6_ := n5_; have n7_ := Aside0.mk ((by rw [hg]; exact Nat.ne_of_lt (blk_lt (by (with_reducible repeat (first | refine blk_drewN ?_ _ | refine blk_drew ?_ | refine blk_alloc ?_ _)); exact BK290.out)) : gb290 ≠ gb293)); have n8_ := Aside0.mk ((by rw [hg]; exact Nat.ne_of_gt (blk_lt (by (with_reducible repeat (first | refine blk_drewN ?_ _ | refine blk_drew ?_ | refine blk_alloc ?_ _)); exact BK290.out)) : gb293 ≠ gb290)); have n9_ := Aside0.mk ((by rw [hg]; exact Nat.ne_of_lt (blk_lt (by (with_reducible repeat (first | refine blk_drewN ?_ _ | refine blk_drew ?_ | refine blk_alloc ?_ _)); exact BK291.out)) : gb291 ≠ gb293)); have n10_ := Aside0.mk ((by rw [hg]; exact Nat.ne_of_gt (blk_lt (by (with_reducible repeat (first | refine blk_drewN ?_ _ | refine blk_drew ?_ | refine blk_alloc ?_ _)); exact BK291.out)) : gb293 ≠ gb291)); clear HO_3; clear BK290; clear BK291; clear HB; have HO_3 := n0_; have BK290 := n1_; have BK291 := n2_; have HB := n3_; have BK293 := n4_; have GW293 := n5_; have GE293 := n6_; have NB290_293 := n7_; have NB293_290 := n8_; have NB291_293 := n9_; have NB293_291 := n10_; clear n0_ n1_ n2_ n3_ n4_ n5_ n6_ n7_ n8_ n9_ n10_; clear hb hbox hg; have hnb12 := NB293_290.out; have hnc12 := NB290_293.out; have hnb13 := NB293_291.out; have hnc13 := NB291_293.out; have hcz14 := blk_cell BK293.out; have hfz14 := blk_frozen BK293.out; have hfz14_13 := blk_frozen BK293.out 13) | ((with_reducible refine gate_callee (f := 41) rfl ?_); refine goesL_ (some 15) rfl rfl Try.func41 (by kernel_rfl) rfl #[.agg #[.int .i64 ((rd_T46 l0_13 x9_1).f0), .int .i64 ((rd_T46 l0_13 x9_1).f1), .int .i64 ((rd_T46 l0_13 x9_1).f2), .int .i64 ((rd_T46 l0_13 x9_1).f3.f0), .int .i64 ((rd_T46 l0_13 x9_1).f3.f1), .int .i64 ((rd_T46 l0_13 x9_1).f3.f2), .bool ((rd_T46 l0_13 x9_1).f3.f3.f0), .int .i64 ((rd_T46 l0_13 x9_1).f3.f3.f1), .int .i64 ((rd_T46 l0_13 x9_1).f4.f0), .int .i64 ((rd_T46 l0_13 x9_1).f4.f1), .int .i64 ((rd_T46 l0_13 x9_1).f4.f2), .bool ((rd_T46 l0_13 x9_1).f4.f3.f0), .int .i64 ((rd_T46 l0_13 x9_1).f4.f3.f1), .slice A292_13 ((rd_T46 l0_13 x9_1).f5).length c292_13]] rfl (by (try simp only [List.map_toArray, List.map_cons, List.map_nil]); first | done | rfl | (simp only [List.length_drop, List.length_take]; rfl)) ?_; (with_reducible refine (ih k1 (by have := HK1.out; omega) ((rd_T46 l0_13 x9_1).f0) ((rd_T46 l0_13 x9_1).f1) ((rd_T46 l0_13 x9_1).f2) ((rd_T46 l0_13 x9_1).f3.f0) ((rd_T46 l0_13 x9_1).f3.f1) ((rd_T46 l0_13 x9_1).f3.f2) ((rd_T46 l0_13 x9_1).f3.f3.f0) ((rd_T46 l0_13 x9_1).f3.f3.f1) ((rd_T46 l0_13 x9_1).f4.f0) ((rd_T46 l0_13 x9_1).f4.f1) ((rd_T46 l0_13 x9_1).f4.f2) ((rd_T46 l0_13 x9_1).f4.f3.f0) ((rd_T46 l0_13 x9_1).f4.f3.f1) _ _ ((rd_T46 l0_13 x9_1).f5) t294 t295 t296 t297 t298 t299 t300 t301 t302 t303 t304 t305 t306 t307 _ ?side1 ?side2 A9.out).mono ?_); (case side1 => exact Kd.C_below HR292_13.out (by repeat (first | (with_reducible first | exact HB.out | apply below_alloc | apply pw_below_drewN | apply below_drew1 | refine below_set ?_ GE290.out | refine below_set ?_ GE291.out | refine below_set ?_ GE293.out) | exact HB.out))); (case side2 => exact HC292_13.out); rintro e w15 ⟨v308, rfl, ho0, hb⟩; refine ⟨_, rfl, ?_⟩; have n0_ := Aside0.mk (Kd.R_elder' (by (with_reducible repeat (first | apply Kd.R_alloc | apply Kd.R_drewN | apply Kd.R_drew)); exact (Kd.R_mono (Kd.R_far (p := ⟨gb293, 13, none⟩) (Kd.R_far (p := ⟨gb293, 12, none⟩) (Kd.R_far (p := ⟨gb293, 11, none⟩) (Kd.R_far (p := ⟨gb293, 10, none⟩) (Kd.R_far (p := ⟨gb293, 9, none⟩) (Kd.R_far (p := ⟨gb293, 8, none⟩) (Kd.R_far (p := ⟨gb293, 7, none⟩) (Kd.R_far (p := ⟨gb293, 6, none⟩) (Kd.R_far (p := ⟨gb293, 5, none⟩) (Kd.R_far (p := ⟨gb293, 4, none⟩) (Kd.R_far (p := ⟨gb293, 3, none⟩) (Kd.R_far (p := ⟨gb293, 2, none⟩) (Kd.R_far (p := ⟨gb293, 1, none⟩) (Kd.R_far (p := ⟨gb293, 0, none⟩) (Kd.R_mono HO_3.out (fun k_ hk => (⟨hk, hk.2⟩ : _ ∧ k_ ≠ gb293))) (fun _ hk => hk.2) (.int .i64 ((rd_T46 l0_13 x9_1).f0))) (fun _ hk => hk.2) (.int .i64 ((rd_T46 l0_13 x9_1).f1))) (fun _ hk => hk.2) (.int .i64 ((rd_T46 l0_13 x9_1).f2))) (fun _ hk => hk.2) (.int .i64 ((rd_T46 l0_13 x9_1).f3.f0))) (fun _ hk => hk.2) (.int .i64 ((rd_T46 l0_13 x9_1).f3.f1))) (fun _ hk => hk.2) (.int .i64 ((rd_T46 l0_13 x9_1).f3.f2))) (fun _ hk => hk.2) (.bool ((rd_T46 l0_13 x9_1).f3.f3.f0))) (fun _ hk => hk.2) (.int .i64 ((rd_T46 l0_13 x9_1).f3.f3.f1))) (fun _ hk => hk.2) (.int .i64 ((rd_T46 l0_13 x9_1).f4.f0))) (fun _ hk => hk.2) (.int .i64 ((rd_T46 l0_13 x9_1).f4.f1))) (fun _ hk => hk.2) (.int .i64 ((rd_T46 l0_13 x9_1).f4.f2))) (fun _ hk => hk.2) (.bool ((rd_T46 l0_13 x9_1).f4.f3.f0))) (fun _ hk => hk.2) (.int .i64 ((rd_T46 l0_13 x9_1).f4.f3.f1))) (fun _ hk => hk.2) (.slice A292_13 ((rd_T46 l0_13 x9_1).f5).length c292_13)) (fun _ h_ => h_.1))) (Kd.R_base ho0) hb); have n1_ := Aside0.mk (Kd.R_lower (Kd.R_newB (Kd.R_newB (Kd.R_newB (Kd.R_new' ho0 (Kd.R_lt (by (with_reducible repeat (first | apply Kd.R_alloc | apply Kd.R_drewN | apply Kd.R_drew)); exact (Kd.R_mono (Kd.R_far (p := ⟨gb293, 13, none⟩) (Kd.R_far (p := ⟨gb293, 12, none⟩) (Kd.R_far (p := ⟨gb293, 11, none⟩) (Kd.R_far (p := ⟨gb293, 10, none⟩) (Kd.R_far (p := ⟨gb293, 9, none⟩) (Kd.R_far (p := ⟨gb293, 8, none⟩) (Kd.R_far (p := ⟨gb293, 7, none⟩) (Kd.R_far (p := ⟨gb293, 6, none⟩) (Kd.R_far (p := ⟨gb293, 5, none⟩) (Kd.R_far (p := ⟨gb293, 4, none⟩) (Kd.R_far (p := ⟨gb293, 3, none⟩) (Kd.R_far (p := ⟨gb293, 2, none⟩) (Kd.R_far (p := ⟨gb293, 1, none⟩) (Kd.R_far (p := ⟨gb293, 0, none⟩) (Kd.R_mono HO_3.out (fun k_ hk => (⟨hk, hk.2⟩ : _ ∧ k_ ≠ gb293))) (fun _ hk => hk.2) (.int .i64 ((rd_T46 l0_13 x9_1).f0))) (fun _ hk => hk.2) (.int .i64 ((rd_T46 l0_13 x9_1).f1))) (fun _ hk => hk.2) (.int .i64 ((rd_T46 l0_13 x9_1).f2))) (fun _ hk => hk.2) (.int .i64 ((rd_T46 l0_13 x9_1).f3.f0))) (fun _ hk => hk.2) (.int .i64 ((rd_T46 l0_13 x9_1).f3.f1))) (fun _ hk => hk.2) (.int .i64 ((rd_T46 l0_13 x9_1).f3.f2))) (fun _ hk => hk.2) (.bool ((rd_T46 l0_13 x9_1).f3.f3.f0))) (fun _ hk => hk.2) (.int .i64 ((rd_T46 l0_13 x9_1).f3.f3.f1))) (fun _ hk => hk.2) (.int .i64 ((rd_T46 l0_13 x9_1).f4.f0))) (fun _ hk => hk.2) (.int .i64 ((rd_T46 l0_13 x9_1).f4.f1))) (fun _ hk => hk.2) (.int .i64 ((rd_T46 l0_13 x9_1).f4.f2))) (fun _ hk => hk.2) (.bool ((rd_T46 l0_13 x9_1).f4.f3.f0))) (fun _ hk => hk.2) (.int .i64 ((rd_T46 l0_13 x9_1).f4.f3.f1))) (fun _ hk => hk.2) (.slice A292_13 ((rd_T46 l0_13 x9_1).f5).length c292_13)) (fun _ h_ => h_.1))))) (g := gb290) (o := .cells #[.int .i64 a0_0, .int .i64 a0_1, .int .i64 a0_2, .int .i64 a0_3, .int .i64 a0_4, .int .i64 a0_5, .bool a0_6, .int .i64 a0_7, .int .i64 a0_8, .int .i64 a0_9, .int .i64 a0_10, .bool a0_11, .int .i64 a0_12, .slice (some ad292) l0_13.length c0_13] 46 (0, 0)) (by (iterate 14 ((with_reducible repeat (first | refine blk_drewN ?_ _ | refine blk_drew ?_ | refine blk_alloc ?_ _)); refine blk_far ?_ NB290_293.out _)); (with_reducible repeat (first | refine blk_drewN ?_ _ | refine blk_drew ?_ | refine blk_alloc ?_ _)); exact BK290.out)) (g := gb291) (o := .cells #[.int .i64 0, .int .i64 0, .int .i64 0, .int .i64 0, .int .i64 0, .int .i64 0, .bool false, .int .i64 0, .int .i64 0, .int .i64 0, .int .i64 0, .bool false, .int .i64 0, .slice none 0 0] 46 (0, 0)) (by (iterate 14 ((with_reducible repeat (first | refine blk_drewN ?_ _ | refine blk_drew ?_ | refine blk_alloc ?_ _)); refine blk_far ?_ NB291_293.out _)); (with_reducible repeat (first | refine blk_drewN ?_ _ | refine blk_drew ?_ | refine blk_alloc ?_ _)); exact BK291.out)) (g := gb293) (o := .cells #[.int .i64 ((rd_T46 l0_13 x9_1).f0), .int .i64 ((rd_T46 l0_13 x9_1).f1), .int .i64 ((rd_T46 l0_13 x9_1).f2), .int .i64 ((rd_T46 l0_13 x9_1).f3.f0), .int .i64 ((rd_T46 l0_13 x9_1).f3.f1), .int .i64 ((rd_T46 l0_13 x9_1).f3.f2), .bool ((rd_T46 l0_13 x9_1).f3.f3.f0), .int .i64 ((rd_T46 l0_13 x9_1).f3.f3.f1), .int .i64 ((rd_T46 l0_13 x9_1).f4.f0), .int .i64 ((rd_T46 l0_13 x9_1).f4.f1), .int .i64 ((rd_T46 l0_13 x9_1).f4.f2), .bool ((rd_T46 l0_13 x9_1).f4.f3.f0), .int .i64 ((rd_T46 l0_13 x9_1).f4.f3.f1), .slice A292_13 ((rd_T46 l0_13 x9_1).f5).length c292_13] 46 (0, 0)) (by (with_reducible repeat (first | refine blk_drewN ?_ _ | refine blk_drew ?_ | refine blk_alloc ?_ _)); refine blk_put (cs := #[.int .i64 ((rd_T46 l0_13 x9_1).f0), .int .i64 ((rd_T46 l0_13 x9_1).f1), .int .i64 ((rd_T46 l0_13 x9_1).f2), .int .i64 ((rd_T46 l0_13 x9_1).f3.f0), .int .i64 ((rd_T46 l0_13 x9_1).f3.f1), .int .i64 ((rd_T46 l0_13 x9_1).f3.f2), .bool ((rd_T46 l0_13 x9_1).f3.f3.f0), .int .i64 ((rd_T46 l0_13 x9_1).f3.f3.f1), .int .i64 ((rd_T46 l0_13 x9_1).f4.f0), .int .i64 ((rd_T46 l0_13 x9_1).f4.f1), .int .i64 ((rd_T46 l0_13 x9_1).f4.f2), .bool ((rd_T46 l0_13 x9_1).f4.f3.f0), .int .i64 ((rd_T46 l0_13 x9_1).f4.f3.f1), .slice none 0 0]) ?_ 13 _ rfl; (with_reducible repeat (first | refine blk_drewN ?_ _ | refine blk_drew ?_ | refine blk_alloc ?_ _)); refine blk_put (cs := #[.int .i64 ((rd_T46 l0_13 x9_1).f0), .int .i64 ((rd_T46 l0_13 x9_1).f1), .int .i64 ((rd_T46 l0_13 x9_1).f2), .int .i64 ((rd_T46 l0_13 x9_1).f3.f0), .int .i64 ((rd_T46 l0_13 x9_1).f3.f1), .int .i64 ((rd_T46 l0_13 x9_1).f3.f2), .bool ((rd_T46 l0_13 x9_1).f3.f3.f0), .int .i64 ((rd_T46 l0_13 x9_1).f3.f3.f1), .int .i64 ((rd_T46 l0_13 x9_1).f4.f0), .int .i64 ((rd_T46 l0_13 x9_1).f4.f1), .int .i64 ((rd_T46 l0_13 x9_1).f4.f2), .bool ((rd_T46 l0_13 x9_1).f4.f3.f0), .int .i64 0, .slice none 0 0]) ?_ 12 _ rfl; (with_reducible repeat (first | refine blk_drewN ?_ _ | refine blk_drew ?_ | refine blk_alloc ?_ _)); refine blk_put (cs := #[.int .i64 ((rd_T46 l0_13 x9_1).f0), .int .i64 ((rd_T46 l0_13 x9_1).f1), .int .i64 ((rd_T46 l0_13 x9_1).f2), .int .i64 ((rd_T46 l0_13 x9_1).f3.f0), .int .i64 ((rd_T46 l0_13 x9_1).f3.f1), .int .i64 ((rd_T46 l0_13 x9_1).f3.f2), .bool ((rd_T46 l0_13 x9_1).f3.f3.f0), .int .i64 ((rd_T46 l0_13 x9_1).f3.f3.f1), .int .i64 ((rd_T46 l0_13 x9_1).f4.f0), .int .i64 ((rd_T46 l0_13 x9_1).f4.f1), .int .i64 ((rd_T46 l0_13 x9_1).f4.f2), .bool false, .int .i64 0, .slice none 0 0]) ?_ 11 _ rfl; (with_reducible repeat (first | refine blk_drewN ?_ _ | refine blk_drew ?_ | refine blk_alloc ?_ _)); refine blk_put (cs := #[.int .i64 ((rd_T46 l0_13 x9_1).f0), .int .i64 ((rd_T46 l0_13 x9_1).f1), .int .i64 ((rd_T46 l0_13 x9_1).f2), .int .i64 ((rd_T46 l0_13 x9_1).f3.f0), .int .i64 ((rd_T46 l0_13 x9_1).f3.f1), .int .i64 ((rd_T46 l0_13 x9_1).f3.f2), .bool ((rd_T46 l0_13 x9_1).f3.f3.f0), .int .i64 ((rd_T46 l0_13 x9_1).f3.f3.f1), .int .i64 ((rd_T46 l0_13 x9_1).f4.f0), .int .i64 ((rd_T46 l0_13 x9_1).f4.f1), .int .i64 0, .bool false, .int .i64 0, .slice none 0 0]) ?_ 10 _ rfl; (with_reducible repeat (first | refine blk_drewN ?_ _ | refine blk_drew ?_ | refine blk_alloc ?_ _)); refine blk_put (cs := #[.int .i64 ((rd_T46 l0_13 x9_1).f0), .int .i64 ((rd_T46 l0_13 x9_1).f1), .int .i64 ((rd_T46 l0_13 x9_1).f2), .int .i64 ((rd_T46 l0_13 x9_1).f3.f0), .int .i64 ((rd_T46 l0_13 x9_1).f3.f1), .int .i64 ((rd_T46 l0_13 x9_1).f3.f2), .bool ((rd_T46 l0_13 x9_1).f3.f3.f0), .int .i64 ((rd_T46 l0_13 x9_1).f3.f3.f1), .int .i64 ((rd_T46 l0_13 x9_1).f4.f0), .int .i64 0, .int .i64 0, .bool false, .int .i64 0, .slice none 0 0]) ?_ 9 _ rfl; (with_reducible repeat (first | refine blk_drewN ?_ _ | refine blk_drew ?_ | refine blk_alloc ?_ _)); refine blk_put (cs := #[.int .i64 ((rd_T46 l0_13 x9_1).f0), .int .i64 ((rd_T46 l0_13 x9_1).f1), .int .i64 ((rd_T46 l0_13 x9_1).f2), .int .i64 ((rd_T46 l0_13 x9_1).f3.f0), .int .i64 ((rd_T46 l0_13 x9_1).f3.f1), .int .i64 ((rd_T46 l0_13 x9_1).f3.f2), .bool ((rd_T46 l0_13 x9_1).f3.f3.f0), .int .i64 ((rd_T46 l0_13 x9_1).f3.f3.f1), .int .i64 0, .int .i64 0, .int .i64 0, .bool false, .int .i64 0, .slice none 0 0]) ?_ 8 _ rfl; (with_reducible repeat (first | refine blk_drewN ?_ _ | refine blk_drew ?_ | refine blk_alloc ?_ _)); refine blk_put (cs := #[.int .i64 ((rd_T46 l0_13 x9_1).f0), .int .i64 ((rd_T46 l0_13 x9_1).f1), .int .i64 ((rd_T46 l0_13 x9_1).f2), .int .i64 ((rd_T46 l0_13 x9_1).f3.f0), .int .i64 ((rd_T46 l0_13 x9_1).f3.f1), .int .i64 ((rd_T46 l0_13 x9_1).f3.f2), .bool ((rd_T46 l0_13 x9_1).f3.f3.f0), .int .i64 0, .int .i64 0, .int .i64 0, .int .i64 0, .bool false, .int .i64 0, .slice none 0 0]) ?_ 7 _ rfl; (with_reducible repeat (first | refine blk_drewN ?_ _ | refine blk_drew ?_ | refine blk_alloc ?_ _)); refine blk_put (cs := #[.int .i64 ((rd_T46 l0_13 x9_1).f0), .int .i64 ((rd_T46 l0_13 x9_1).f1), .int .i64 ((rd_T46 l0_13 x9_1).f2), .int .i64 ((rd_T46 l0_13 x9_1).f3.f0), .int .i64 ((rd_T46 l0_13 x9_1).f3.f1), .int .i64 ((rd_T46 l0_13 x9_1).f3.f2), .bool false, .int .i64 0, .int .i64 0, .int .i64 0, .int .i64 0, .bool false, .int .i64 0, .slice none 0 0]) ?_ 6 _ rfl; (with_reducible repeat (first | refine blk_drewN ?_ _ | refine blk_drew ?_ | refine blk_alloc ?_ _)); refine blk_put (cs := #[.int .i64 ((rd_T46 l0_13 x9_1).f0), .int .i64 ((rd_T46 l0_13 x9_1).f1), .int .i64 ((rd_T46 l0_13 x9_1).f2), .int .i64 ((rd_T46 l0_13 x9_1).f3.f0), .int .i64 ((rd_T46 l0_13 x9_1).f3.f1), .int .i64 0, .bool false, .int .i64 0, .int .i64 0, .int .i64 0, .int .i64 0, .bool false, .int .i64 0, .slice none 0 0]) ?_ 5 _ rfl; (with_reducible repeat (first | refine blk_drewN ?_ _ | refine blk_drew ?_ | refine blk_alloc ?_ _)); refine blk_put (cs := #[.int .i64 ((rd_T46 l0_13 x9_1).f0), .int .i64 ((rd_T46 l0_13 x9_1).f1), .int .i64 ((rd_T46 l0_13 x9_1).f2), .int .i64 ((rd_T46 l0_13 x9_1).f3.f0), .int .i64 0, .int .i64 0, .bool false, .int .i64 0, .int .i64 0, .int .i64 0, .int .i64 0, .bool false, .int .i64 0, .slice none 0 0]) ?_ 4 _ rfl; (with_reducible repeat (first | refine blk_drewN ?_ _ | refine blk_drew ?_ | refine blk_alloc ?_ _)); refine blk_put (cs := #[.int .i64 ((rd_T46 l0_13 x9_1).f0), .int .i64 ((rd_T46 l0_13 x9_1).f1), .int .i64 ((rd_T46 l0_13 x9_1).f2), .int .i64 0, .int .i64 0, .int .i64 0, .bool false, .int .i64 0, .int .i64 0, .int .i64 0, .int .i64 0, .bool false, .int .i64 0, .slice none 0 0]) ?_ 3 _ rfl; (with_reducible repeat (first | refine blk_drewN ?_ _ | refine blk_drew ?_ | refine blk_alloc ?_ _)); refine blk_put (cs := #[.int .i64 ((rd_T46 l0_13 x9_1).f0), .int .i64 ((rd_T46 l0_13 x9_1).f1), .int .i64 0, .int .i64 0, .int .i64 0, .int .i64 0, .bool false, .int .i64 0, .int .i64 0, .int .i64 0, .int .i64 0, .bool false, .int .i64 0, .slice none 0 0]) ?_ 2 _ rfl; (with_reducible repeat (first | refine blk_drewN ?_ _ | refine blk_drew ?_ | refine blk_alloc ?_ _)); refine blk_put (cs := #[.int .i64 ((rd_T46 l0_13 x9_1).f0), .int .i64 0, .int .i64 0, .int .i64 0, .int .i64 0, .int .i64 0, .bool false, .int .i64 0, .int .i64 0, .int .i64 0, .int .i64 0, .bool false, .int .i64 0, .slice none 0 0]) ?_ 1 _ rfl; (with_reducible repeat (first | refine blk_drewN ?_ _ | refine blk_drew ?_ | refine blk_alloc ?_ _)); refine blk_put (cs := #[.int .i64 0, .int .i64 0, .int .i64 0, .int .i64 0, .int .i64 0, .int .i64 0, .bool false, .int .i64 0, .int .i64 0, .int .i64 0, .int .i64 0, .bool false, .int .i64 0, .slice none 0 0]) ?_ 0 _ rfl; (with_reducible repeat (first | refine blk_drewN ?_ _ | refine blk_drew ?_ | refine blk_alloc ?_ _)); exact BK293.out)) (below_size (by repeat (first | (with_reducible first | exact HB.out | apply below_alloc | apply pw_below_drewN | apply below_drew1 | refine below_set ?_ GE290.out | refine below_set ?_ GE291.out | refine below_set ?_ GE293.out) | exact HB.out)))); have n2_ := Aside0.mk (blk_below (g := gb290) (o := .cells #[.int .i64 a0_0, .int .i64 a0_1, .int .i64 a0_2, .int .i64 a0_3, .int .i64 a0_4, .int .i64 a0_5, .bool a0_6, .int .i64 a0_7, .int .i64 a0_8, .int .i64 a0_9, .int .i64 a0_10, .bool a0_11, .int .i64 a0_12, .slice (some ad292) l0_13.length c0_13] 46 (0, 0)) (by (iterate 14 ((with_reducible repeat (first | refine blk_drewN ?_ _ | refine blk_drew ?_ | refine blk_alloc ?_ _)); refine blk_far ?_ NB290_293.out _)); (with_reducible repeat (first | refine blk_drewN ?_ _ | refine blk_drew ?_ | refine blk_alloc ?_ _)); exact BK290.out) hb); have n3_ := Aside0.mk (blk_below (g := gb291) (o := .cells #[.int .i64 0, .int .i64 0, .int .i64 0, .int .i64 0, .int .i64 0, .int .i64 0, .bool false, .int .i64 0, .int .i64 0, .int .i64 0, .int .i64 0, .bool false, .int .i64 0, .slice none 0 0] 46 (0, 0)) (by (iterate 14 ((with_reducible repeat (first | refine blk_drewN ?_ _ | refine blk_drew ?_ | refine blk_alloc ?_ _)); refine blk_far ?_ NB291_293.out _)); (with_reducible repeat (first | refine blk_drewN ?_ _ | refine blk_drew ?_ | refine blk_alloc ?_ _)); exact BK291.out) hb); have n4_ := Aside0.mk (blk_below (g := gb293) (o := .cells #[.int .i64 ((rd_T46 l0_13 x9_1).f0), .int .i64 ((rd_T46 l0_13 x9_1).f1), .int .i64 ((rd_T46 l0_13 x9_1).f2), .int .i64 ((rd_T46 l0_13 x9_1).f3.f0), .int .i64 ((rd_T46 l0_13 x9_1).f3.f1), .int .i64 ((rd_T46 l0_13 x9_1).f3.f2), .bool ((rd_T46 l0_13 x9_1).f3.f3.f0), .int .i64 ((rd_T46 l0_13 x9_1).f3.f3.f1), .int .i64 ((rd_T46 l0_13 x9_1).f4.f0), .int .i64 ((rd_T46 l0_13 x9_1).f4.f1), .int .i64 ((rd_T46 l0_13 x9_1).f4.f2), .bool ((rd_T46 l0_13 x9_1).f4.f3.f0), .int .i64 ((rd_T46 l0_13 x9_1).f4.f3.f1), .slice A292_13 ((rd_T46 l0_13 x9_1).f5).length c292_13] 46 (0, 0)) (by (with_reducible repeat (first | refine blk_drewN ?_ _ | refine blk_drew ?_ | refine blk_alloc ?_ _)); refine blk_put (cs := #[.int .i64 ((rd_T46 l0_13 x9_1).f0), .int .i64 ((rd_T46 l0_13 x9_1).f1), .int .i64 ((rd_T46 l0_13 x9_1).f2), .int .i64 ((rd_T46 l0_13 x9_1).f3.f0), .int .i64 ((rd_T46 l0_13 x9_1).f3.f1), .int .i64 ((rd_T46 l0_13 x9_1).f3.f2), .bool ((rd_T46 l0_13 x9_1).f3.f3.f0), .int .i64 ((rd_T46 l0_13 x9_1).f3.f3.f1), .int .i64 ((rd_T46 l0_13 x9_1).f4.f0), .int .i64 ((rd_T46 l0_13 x9_1).f4.f1), .int .i64 ((rd_T46 l0_13 x9_1).f4.f2), .bool ((rd_T46 l0_13 x9_1).f4.f3.f0), .int .i64 ((rd_T46 l0_13 x9_1).f4.f3.f1), .slice none 0 0]) ?_ 13 _ rfl; (with_reducible repeat (first | refine blk_drewN ?_ _ | refine blk_drew ?_ | refine blk_alloc ?_ _)); refine blk_put (cs := #[.int .i64 ((rd_T46 l0_13 x9_1).f0), .int .i64 ((rd_T46 l0_13 x9_1).f1), .int .i64 ((rd_T46 l0_13 x9_1).f2), .int .i64 ((rd_T46 l0_13 x9_1).f3.f0), .int .i64 ((rd_T46 l0_13 x9_1).f3.f1), .int .i64 ((rd_T46 l0_13 x9_1).f3.f2), .bool ((rd_T46 l0_13 x9_1).f3.f3.f0), .int .i64 ((rd_T46 l0_13 x9_1).f3.f3.f1), .int .i64 ((rd_T46 l0_13 x9_1).f4.f0), .int .i64 ((rd_T46 l0_13 x9_1).f4.f1), .int .i64 ((rd_T46 l0_13 x9_1).f4.f2), .bool ((rd_T46 l0_13 x9_1).f4.f3.f0), .int .i64 0, .slice none 0 0]) ?_ 12 _ rfl; (with_reducible repeat (first | refine blk_drewN ?_ _ | refine blk_drew ?_ | refine blk_alloc ?_ _)); refine blk_put (cs := #[.int .i64 ((rd_T46 l0_13 x9_1).f0), .int .i64 ((rd_T46 l0_13 x9_1).f1), .int .i64 ((rd_T46 l0_13 x9_1).f2), .int .i64 ((rd_T46 l0_13 x9_1).f3.f0), .int .i64 ((rd_T46 l0_13 x9_1).f3.f1), .int .i64 ((rd_T46 l0_13 x9_1).f3.f2), .bool ((rd_T46 l0_13 x9_1).f3.f3.f0), .int .i64 ((rd_T46 l0_13 x9_1).f3.f3.f1), .int .i64 ((rd_T46 l0_13 x9_1).f4.f0), .int .i64 ((rd_T46 l0_13 x9_1).f4.f1), .int .i64 ((rd_T46 l0_13 x9_1).f4.f2), .bool false, .int .i64 0, .slice none 0 0]) ?_ 11 _ rfl; (with_reducible repeat (first | refine blk_drewN ?_ _ | refine blk_drew ?_ | refine blk_alloc ?_ _)); refine blk_put (cs := #[.int .i64 ((rd_T46 l0_13 x9_1).f0), .int .i64 ((rd_T46 l0_13 x9_1).f1), .int .i64 ((rd_T46 l0_13 x9_1).f2), .int .i64 ((rd_T46 l0_13 x9_1).f3.f0), .int .i64 ((rd_T46 l0_13 x9_1).f3.f1), .int .i64 ((rd_T46 l0_13 x9_1).f3.f2), .bool ((rd_T46 l0_13 x9_1).f3.f3.f0), .int .i64 ((rd_T46 l0_13 x9_1).f3.f3.f1), .int .i64 ((rd_T46 l0_13 x9_1).f4.f0), .int .i64 ((rd_T46 l0_13 x9_1).f4.f1), .int .i64 0, .bool false, .int .i64 0, .slice none 0 0]) ?_ 10 _ rfl; (with_reducible repeat (first | refine blk_drewN ?_ _ | refine blk_drew ?_ | refine blk_alloc ?_ _)); refine blk_put (cs := #[.int .i64 ((rd_T46 l0_13 x9_1).f0), .int .i64 ((rd_T46 l0_13 x9_1).f1), .int .i64 ((rd_T46 l0_13 x9_1).f2), .int .i64 ((rd_T46 l0_13 x9_1).f3.f0), .int .i64 ((rd_T46 l0_13 x9_1).f3.f1), .int .i64 ((rd_T46 l0_13 x9_1).f3.f2), .bool ((rd_T46 l0_13 x9_1).f3.f3.f0), .int .i64 ((rd_T46 l0_13 x9_1).f3.f3.f1), .int .i64 ((rd_T46 l0_13 x9_1).f4.f0), .int .i64 0, .int .i64 0, .bool false, .int .i64 0, .slice none 0 0]) ?_ 9 _ rfl; (with_reducible repeat (first | refine blk_drewN ?_ _ | refine blk_drew ?_ | refine blk_alloc ?_ _)); refine blk_put (cs := #[.int .i64 ((rd_T46 l0_13 x9_1).f0), .int .i64 ((rd_T46 l0_13 x9_1).f1), .int .i64 ((rd_T46 l0_13 x9_1).f2), .int .i64 ((rd_T46 l0_13 x9_1).f3.f0), .int .i64 ((rd_T46 l0_13 x9_1).f3.f1), .int .i64 ((rd_T46 l0_13 x9_1).f3.f2), .bool ((rd_T46 l0_13 x9_1).f3.f3.f0), .int .i64 ((rd_T46 l0_13 x9_1).f3.f3.f1), .int .i64 0, .int .i64 0, .int .i64 0, .bool false, .int .i64 0, .slice none 0 0]) ?_ 8 _ rfl; (with_reducible repeat (first | refine blk_drewN ?_ _ | refine blk_drew ?_ | refine blk_alloc ?_ _)); refine blk_put (cs := #[.int .i64 ((rd_T46 l0_13 x9_1).f0), .int .i64 ((rd_T46 l0_13 x9_1).f1), .int .i64 ((rd_T46 l0_13 x9_1).f2), .int .i64 ((rd_T46 l0_13 x9_1).f3.f0), .int .i64 ((rd_T46 l0_13 x9_1).f3.f1), .int .i64 ((rd_T46 l0_13 x9_1).f3.f2), .bool ((rd_T46 l0_13 x9_1).f3.f3.f0), .int .i64 0, .int .i64 0, .int .i64 0, .int .i64 0, .bool false, .int .i64 0, .slice none 0 0]) ?_ 7 _ rfl; (with_reducible repeat (first | refine blk_drewN ?_ _ | refine blk_drew ?_ | refine blk_alloc ?_ _)); refine blk_put (cs := #[.int .i64 ((rd_T46 l0_13 x9_1).f0), .int .i64 ((rd_T46 l0_13 x9_1).f1), .int .i64 ((rd_T46 l0_13 x9_1).f2), .int .i64 ((rd_T46 l0_13 x9_1).f3.f0), .int .i64 ((rd_T46 l0_13 x9_1).f3.f1), .int .i64 ((rd_T46 l0_13 x9_1).f3.f2), .bool false, .int .i64 0, .int .i64 0, .int .i64 0, .int .i64 0, .bool false, .int .i64 0, .slice none 0 0]) ?_ 6 _ rfl; (with_reducible repeat (first | refine blk_drewN ?_ _ | refine blk_drew ?_ | refine blk_alloc ?_ _)); refine blk_put (cs := #[.int .i64 ((rd_T46 l0_13 x9_1).f0), .int .i64 ((rd_T46 l0_13 x9_1).f1), .int .i64 ((rd_T46 l0_13 x9_1).f2), .int .i64 ((rd_T46 l0_13 x9_1).f3.f0), .int .i64 ((rd_T46 l0_13 x9_1).f3.f1), .int .i64 0, .bool false, .int .i64 0, .int .i64 0, .int .i64 0, .int .i64 0, .bool false, .int .i64 0, .slice none 0 0]) ?_ 5 _ rfl; (with_reducible repeat (first | refine blk_drewN ?_ _ | refine blk_drew ?_ | refine blk_alloc ?_ _)); refine blk_put (cs := #[.int .i64 ((rd_T46 l0_13 x9_1).f0), .int .i64 ((rd_T46 l0_13 x9_1).f1), .int .i64 ((rd_T46 l0_13 x9_1).f2), .int .i64 ((rd_T46 l0_13 x9_1).f3.f0), .int .i64 0, .int .i64 0, .bool false, .int .i64 0, .int .i64 0, .int .i64 0, .int .i64 0, .bool false, .int .i64 0, .slice none 0 0]) ?_ 4 _ rfl; (with_reducible repeat (first | refine blk_drewN ?_ _ | refine blk_drew ?_ | refine blk_alloc ?_ _)); refine blk_put (cs := #[.int .i64 ((rd_T46 l0_13 x9_1).f0), .int .i64 ((rd_T46 l0_13 x9_1).f1), .int .i64 ((rd_T46 l0_13 x9_1).f2), .int .i64 0, .int .i64 0, .int .i64 0, .bool false, .int .i64 0, .int .i64 0, .int .i64 0, .int .i64 0, .bool false, .int .i64 0, .slice none 0 0]) ?_ 3 _ rfl; (with_reducible repeat (first | refine blk_drewN ?_ _ | refine blk_drew ?_ | refine blk_alloc ?_ _)); refine blk_put (cs := #[.int .i64 ((rd_T46 l0_13 x9_1).f0), .int .i64 ((rd_T46 l0_13 x9_1).f1), .int .i64 0, .int .i64 0, .int .i64 0, .int .i64 0, .bool false, .int .i64 0, .int .i64 0, .int .i64 0, .int .i64 0, .bool false, .int .i64 0, .slice none 0 0]) ?_ 2 _ rfl; (with_reducible repeat (first | refine blk_drewN ?_ _ | refine blk_drew ?_ | refine blk_alloc ?_ _)); refine blk_put (cs := #[.int .i64 ((rd_T46 l0_13 x9_1).f0), .int .i64 0, .int .i64 0, .int .i64 0, .int .i64 0, .int .i64 0, .bool false, .int .i64 0, .int .i64 0, .int .i64 0, .int .i64 0, .bool false, .int .i64 0, .slice none 0 0]) ?_ 1 _ rfl; (with_reducible repeat (first | refine blk_drewN ?_ _ | refine blk_drew ?_ | refine blk_alloc ?_ _)); refine blk_put (cs := #[.int .i64 0, .int .i64 0, .int .i64 0, .int .i64 0, .int .i64 0, .int .i64 0, .bool false, .int .i64 0, .int .i64 0, .int .i64 0, .int .i64 0, .bool false, .int .i64 0, .slice none 0 0]) ?_ 0 _ rfl; (with_reducible repeat (first | refine blk_drewN ?_ _ | refine blk_drew ?_ | refine blk_alloc ?_ _)); exact BK293.out) hb); have n5_ := Aside0.mk (below_step (by repeat (first | (with_reducible first | exact HB.out | apply below_alloc | apply pw_below_drewN | apply below_drew1 | refine below_set ?_ GE290.out | refine below_set ?_ GE291.out | refine below_set ?_ GE293.out) | exact HB.out)) hb); clear HO_3; clear BK290; clear BK291; clear BK293; clear HB; have HO_3 := n0_; have HO309 := n1_; have BK290 := n2_; have BK291 := n3_; have BK293 := n4_; have HB := n5_; clear n0_ n1_ n2_ n3_ n4_ n5_; (try clear hb); (try clear hb2); (try clear hk); (try clear hi); (try clear ho0); obtain ⟨Ao17, co17, eo17⟩ := Kd.R_slice HO309.out; subst eo17) | ((with_reducible refine gate_builtin (b := .append) (xs := #[.tmp 13, .tmp 16]) rfl ?_); at_builtin; refine Kd.R_append k46 (w0 := w) w.heap.size rfl (.tmp 13) (.tmp 16) 23 46 (.agg #[(.int .i64 0), (.int .i64 0), (.int .i64 0), (.int .i64 0), (.int .i64 0), (.int .i64 0), (.bool false), (.int .i64 0), (.int .i64 0), (.int .i64 0), (.int .i64 0), (.bool false), (.int .i64 0), (.slice none 0 0)]) 128 rfl Try.underlying23 info46 rfl (by decide) (by omega) u3 x3_1 (⟨t294, t295, t296, (⟨t297, t298, t299, (⟨t300, t301⟩ : S42)⟩ : S44), (⟨t302, t303, t304, (⟨t305, t306⟩ : S42)⟩ : S44), t307⟩ : S46) [.int .i64 t294, .int .i64 t295, .int .i64 t296, .int .i64 t297, .int .i64 t298, .int .i64 t299, .bool t300, .int .i64 t301, .int .i64 t302, .int .i64 t303, .int .i64 t304, .bool t305, .int .i64 t306, .slice Ao17 t307.length co17] (fun k_ => k_ ≠ gb290 ∧ k_ ≠ gb291 ∧ k_ ≠ gb293) (fun k_ => ((fun k_ => k_ ≠ gb290 ∧ k_ ≠ gb291 ∧ k_ ≠ gb293)) k_ ∧ some k_ ≠ (u3 : Value).ownBlock) rfl rfl ?aP (fun _ hk => hk) ?aF ?aO ?aB ?aS ?aL ?_; (case aP => exact k46_mkM _ _ _ (⟨t294, t295, t296, (⟨t297, t298, t299, (⟨t300, t301⟩ : S42)⟩ : S44), (⟨t302, t303, t304, (⟨t305, t306⟩ : S42)⟩ : S44), t307⟩ : S46) (Kd.R_mono (HO309.out) (fun k_ hk => ⟨⟨hk.1.1.2, ⟨hk.1.2, hk.2⟩⟩, hk.1.1.1.2⟩))); (case aB => exact (by repeat (first | (with_reducible first | exact HB.out | apply below_alloc | apply pw_below_drewN | apply below_drew1 | refine below_set ?_ GE290.out | refine below_set ?_ GE291.out | refine below_set ?_ GE293.out) | exact HB.out))); (case aF => exact (fun k_ hk => ⟨Kd.freshB (g := gb290) (o := .cells #[.int .i64 a0_0, .int .i64 a0_1, .int .i64 a0_2, .int .i64 a0_3, .int .i64 a0_4, .int .i64 a0_5, .bool a0_6, .int .i64 a0_7, .int .i64 a0_8, .int .i64 a0_9, .int .i64 a0_10, .bool a0_11, .int .i64 a0_12, .slice (some ad292) l0_13.length c0_13] 46 (0, 0)) (by (with_reducible repeat (first | refine blk_drewN ?_ _ | refine blk_drew ?_ | refine blk_alloc ?_ _)); exact BK290.out) k_ hk, Kd.freshB (g := gb291) (o := .cells #[.int .i64 0, .int .i64 0, .int .i64 0, .int .i64 0, .int .i64 0, .int .i64 0, .bool false, .int .i64 0, .int .i64 0, .int .i64 0, .int .i64 0, .bool false, .int .i64 0, .slice none 0 0] 46 (0, 0)) (by (with_reducible repeat (first | refine blk_drewN ?_ _ | refine blk_drew ?_ | refine blk_alloc ?_ _)); exact BK291.out) k_ hk, Kd.freshB (g := gb293) (o := .cells #[.int .i64 ((rd_T46 l0_13 x9_1).f0), .int .i64 ((rd_T46 l0_13 x9_1).f1), .int .i64 ((rd_T46 l0_13 x9_1).f2), .int .i64 ((rd_T46 l0_13 x9_1).f3.f0), .int .i64 ((rd_T46 l0_13 x9_1).f3.f1), .int .i64 ((rd_T46 l0_13 x9_1).f3.f2), .bool ((rd_T46 l0_13 x9_1).f3.f3.f0), .int .i64 ((rd_T46 l0_13 x9_1).f3.f3.f1), .int .i64 ((rd_T46 l0_13 x9_1).f4.f0), .int .i64 ((rd_T46 l0_13 x9_1).f4.f1), .int .i64 ((rd_T46 l0_13 x9_1).f4.f2), .bool ((rd_T46 l0_13 x9_1).f4.f3.f0), .int .i64 ((rd_T46 l0_13 x9_1).f4.f3.f1), .slice A292_13 ((rd_T46 l0_13 x9_1).f5).length c292_13] 46 (0, 0)) (by (with_reducible repeat (first | refine blk_drewN ?_ _ | refine blk_drew ?_ | refine blk_alloc ?_ _)); exact BK293.out) k_ hk⟩)); (case aO => exact (by (with_reducible repeat (first | apply Kd.R_alloc | apply Kd.R_drewN | apply Kd.R_drew)); exact Kd.R_mono HO_3.out (fun _ hk => ⟨hk.1.1.1, ⟨hk.1.1.2, hk.1.2⟩⟩))); (case aS => exact (below_size (by repeat (first | (with_reducible first | exact HB.out | apply below_alloc | apply pw_below_drewN | apply below_drew1 | refine below_set ?_ GE290.out | refine below_set ?_ GE291.out | refine below_set ?_ GE293.out) | exact HB.out)))); (case aL => have := LMc10.out; omega); intro v311 w16 ho hb hg hat; rw [← Ny310.out] at ho; have n0_ := Aside0.mk (blk_grown (g := gb290) (o := .cells #[.int .i64 a0_0, .int .i64 a0_1, .int .i64 a0_2, .int .i64 a0_3, .int .i64 a0_4, .int .i64 a0_5, .bool a0_6, .int .i64 a0_7, .int .i64 a0_8, .int .i64 a0_9, .int .i64 a0_10, .bool a0_11, .int .i64 a0_12, .slice (some ad292) l0_13.length c0_13] 46 (0, 0)) (by (with_reducible repeat (first | refine blk_drewN ?_ _ | refine blk_drew ?_ | refine blk_alloc ?_ _)); exact BK290.out) hg (Kd.R_away HO_3.out (fun _ hk => hk.1.1.1))); have n1_ := Aside0.mk (blk_grown (g := gb291) (o := .cells #[.int .i64 0, .int .i64 0, .int .i64 0, .int .i64 0, .int .i64 0, .int .i64 0, .bool false, .int .i64 0, .int .i64 0, .int .i64 0, .int .i64 0, .bool false, .int .i64 0, .slice none 0 0] 46 (0, 0)) (by (with_reducible repeat (first | refine blk_drewN ?_ _ | refine blk_drew ?_ | refine blk_alloc ?_ _)); exact BK291.out) hg (Kd.R_away HO_3.out (fun _ hk => hk.1.1.2))); have n2_ := Aside0.mk (blk_grown (g := gb293) (o := .cells #[.int .i64 ((rd_T46 l0_13 x9_1).f0), .int .i64 ((rd_T46 l0_13 x9_1).f1), .int .i64 ((rd_T46 l0_13 x9_1).f2), .int .i64 ((rd_T46 l0_13 x9_1).f3.f0), .int .i64 ((rd_T46 l0_13 x9_1).f3.f1), .int .i64 ((rd_T46 l0_13 x9_1).f3.f2), .bool ((rd_T46 l0_13 x9_1).f3.f3.f0), .int .i64 ((rd_T46 l0_13 x9_1).f3.f3.f1), .int .i64 ((rd_T46 l0_13 x9_1).f4.f0), .int .i64 ((rd_T46 l0_13 x9_1).f4.f1), .int .i64 ((rd_T46 l0_13 x9_1).f4.f2), .bool ((rd_T46 l0_13 x9_1).f4.f3.f0), .int .i64 ((rd_T46 l0_13 x9_1).f4.f3.f1), .slice A292_13 ((rd_T46 l0_13 x9_1).f5).length c292_13] 46 (0, 0)) (by (with_reducible repeat (first | refine blk_drewN ?_ _ | refine blk_drew ?_ | refine blk_alloc ?_ _)); exact BK293.out) hg (Kd.R_away HO_3.out (fun _ hk => hk.1.2))); have n3_ := Aside0.mk (hb); have n4_ := Aside0.mk (ho); clear BK290; clear BK291; clear BK293; clear HB; clear HO_3; clear HO309; have BK290 := n0_; have BK291 := n1_; have BK293 := n2_; have HB := n3_; have HO312 := n4_; clear n0_ n1_ n2_ n3_ n4_; clear ho hb hg hat))
       go_roundg k1
       case measure => have := HK1.out; omega
       case rel => exact ⟨(y310), (wrap64 (x9_1 + 1)), (by first | rfl | (simp; done) | (simp [*]; done) | (simp; decide)), H', ⟨by have := HK1.out; omega⟩, ⟨by (with_reducible repeat (first | apply Kd.R_alloc | apply Kd.R_drewN | apply Kd.R_drew)); exact Kd.R_mono HO312.out (fun _ hk => ⟨hk.1, hk.2.1⟩)⟩, ⟨by (with_reducible repeat (first | refine blk_drewN ?_ _ | refine blk_drew ?_ | refine blk_alloc ?_ _)); exact BK290.out⟩, ⟨by (with_reducible repeat (first | refine blk_drewN ?_ _ | refine blk_drew ?_ | refine blk_alloc ?_ _)); exact BK291.out⟩, ⟨by repeat (first | (with_reducible first | exact HB.out | apply below_alloc | apply pw_below_drewN | apply below_drew1 | refine below_set ?_ GE290.out | refine below_set ?_ GE291.out | refine below_set ?_ GE293.out) | exact HB.out)⟩⟩
      ·rw [if_neg c10] at H
       exact absurd H (by simp)
     ·rw [if_neg c8] at H
      exact absurd H (by simp)
    ·rw [if_neg c7] at H
     exact absurd H (by simp)
   ·rw [if_neg c6] at H
    have c6b0 : decide (x9_1 < (l0_13.length : Int)) = false := decide_eq_false c6
    clear c6
    simp only [Option.some.injEq, Prod.mk.injEq] at H
    obtain ⟨rfl, rfl, rfl, rfl, rfl, rfl, rfl, rfl, rfl, rfl, rfl, rfl, rfl, rfl⟩ := H
    obtain ⟨Ao18, co18, eo18⟩ := Kd.R_slice HO_3.out
    subst eo18
    have hnb19 := NB290_291.out
    have hnc19 := NB291_290.out
    have hcz20 := blk_cell BK290.out
    have hfz20 := blk_frozen BK290.out
    have hcz21 := blk_cell BK291.out
    have hfz21 := blk_frozen BK291.out
    go_wp2
    refine bodyPost_ret (results_cell_row rfl _ _ gb291 46 #[.int .i64 a0_0, .int .i64 a0_1, .int .i64 a0_2, .int .i64 a0_3, .int .i64 a0_4, .int .i64 a0_5, .bool a0_6, .int .i64 a0_7, .int .i64 a0_8, .int .i64 a0_9, .int .i64 a0_10, .bool a0_11, .int .i64 a0_12, .slice Ao18 x3_1.length co18] (0, 0) _ rfl (by (with_reducible repeat (first | refine blk_drewN ?_ _ | refine blk_drew ?_ | refine blk_alloc ?_ _)); refine blk_put (cs := #[.int .i64 a0_0, .int .i64 a0_1, .int .i64 a0_2, .int .i64 a0_3, .int .i64 a0_4, .int .i64 a0_5, .bool a0_6, .int .i64 a0_7, .int .i64 a0_8, .int .i64 a0_9, .int .i64 a0_10, .bool a0_11, .int .i64 a0_12, .slice none 0 0]) ?_ 13 _ rfl; (with_reducible repeat (first | refine blk_drewN ?_ _ | refine blk_drew ?_ | refine blk_alloc ?_ _)); refine blk_put (cs := #[.int .i64 a0_0, .int .i64 a0_1, .int .i64 a0_2, .int .i64 a0_3, .int .i64 a0_4, .int .i64 a0_5, .bool a0_6, .int .i64 a0_7, .int .i64 a0_8, .int .i64 a0_9, .int .i64 a0_10, .bool a0_11, .int .i64 0, .slice none 0 0]) ?_ 12 _ rfl; (with_reducible repeat (first | refine blk_drewN ?_ _ | refine blk_drew ?_ | refine blk_alloc ?_ _)); refine blk_put (cs := #[.int .i64 a0_0, .int .i64 a0_1, .int .i64 a0_2, .int .i64 a0_3, .int .i64 a0_4, .int .i64 a0_5, .bool a0_6, .int .i64 a0_7, .int .i64 a0_8, .int .i64 a0_9, .int .i64 a0_10, .bool false, .int .i64 0, .slice none 0 0]) ?_ 11 _ rfl; (with_reducible repeat (first | refine blk_drewN ?_ _ | refine blk_drew ?_ | refine blk_alloc ?_ _)); refine blk_put (cs := #[.int .i64 a0_0, .int .i64 a0_1, .int .i64 a0_2, .int .i64 a0_3, .int .i64 a0_4, .int .i64 a0_5, .bool a0_6, .int .i64 a0_7, .int .i64 a0_8, .int .i64 a0_9, .int .i64 0, .bool false, .int .i64 0, .slice none 0 0]) ?_ 10 _ rfl; (with_reducible repeat (first | refine blk_drewN ?_ _ | refine blk_drew ?_ | refine blk_alloc ?_ _)); refine blk_put (cs := #[.int .i64 a0_0, .int .i64 a0_1, .int .i64 a0_2, .int .i64 a0_3, .int .i64 a0_4, .int .i64 a0_5, .bool a0_6, .int .i64 a0_7, .int .i64 a0_8, .int .i64 0, .int .i64 0, .bool false, .int .i64 0, .slice none 0 0]) ?_ 9 _ rfl; (with_reducible repeat (first | refine blk_drewN ?_ _ | refine blk_drew ?_ | refine blk_alloc ?_ _)); refine blk_put (cs := #[.int .i64 a0_0, .int .i64 a0_1, .int .i64 a0_2, .int .i64 a0_3, .int .i64 a0_4, .int .i64 a0_5, .bool a0_6, .int .i64 a0_7, .int .i64 0, .int .i64 0, .int .i64 0, .bool false, .int .i64 0, .slice none 0 0]) ?_ 8 _ rfl; (with_reducible repeat (first | refine blk_drewN ?_ _ | refine blk_drew ?_ | refine blk_alloc ?_ _)); refine blk_put (cs := #[.int .i64 a0_0, .int .i64 a0_1, .int .i64 a0_2, .int .i64 a0_3, .int .i64 a0_4, .int .i64 a0_5, .bool a0_6, .int .i64 0, .int .i64 0, .int .i64 0, .int .i64 0, .bool false, .int .i64 0, .slice none 0 0]) ?_ 7 _ rfl; (with_reducible repeat (first | refine blk_drewN ?_ _ | refine blk_drew ?_ | refine blk_alloc ?_ _)); refine blk_put (cs := #[.int .i64 a0_0, .int .i64 a0_1, .int .i64 a0_2, .int .i64 a0_3, .int .i64 a0_4, .int .i64 a0_5, .bool false, .int .i64 0, .int .i64 0, .int .i64 0, .int .i64 0, .bool false, .int .i64 0, .slice none 0 0]) ?_ 6 _ rfl; (with_reducible repeat (first | refine blk_drewN ?_ _ | refine blk_drew ?_ | refine blk_alloc ?_ _)); refine blk_put (cs := #[.int .i64 a0_0, .int .i64 a0_1, .int .i64 a0_2, .int .i64 a0_3, .int .i64 a0_4, .int .i64 0, .bool false, .int .i64 0, .int .i64 0, .int .i64 0, .int .i64 0, .bool false, .int .i64 0, .slice none 0 0]) ?_ 5 _ rfl; (with_reducible repeat (first | refine blk_drewN ?_ _ | refine blk_drew ?_ | refine blk_alloc ?_ _)); refine blk_put (cs := #[.int .i64 a0_0, .int .i64 a0_1, .int .i64 a0_2, .int .i64 a0_3, .int .i64 0, .int .i64 0, .bool false, .int .i64 0, .int .i64 0, .int .i64 0, .int .i64 0, .bool false, .int .i64 0, .slice none 0 0]) ?_ 4 _ rfl; (with_reducible repeat (first | refine blk_drewN ?_ _ | refine blk_drew ?_ | refine blk_alloc ?_ _)); refine blk_put (cs := #[.int .i64 a0_0, .int .i64 a0_1, .int .i64 a0_2, .int .i64 0, .int .i64 0, .int .i64 0, .bool false, .int .i64 0, .int .i64 0, .int .i64 0, .int .i64 0, .bool false, .int .i64 0, .slice none 0 0]) ?_ 3 _ rfl; (with_reducible repeat (first | refine blk_drewN ?_ _ | refine blk_drew ?_ | refine blk_alloc ?_ _)); refine blk_put (cs := #[.int .i64 a0_0, .int .i64 a0_1, .int .i64 0, .int .i64 0, .int .i64 0, .int .i64 0, .bool false, .int .i64 0, .int .i64 0, .int .i64 0, .int .i64 0, .bool false, .int .i64 0, .slice none 0 0]) ?_ 2 _ rfl; (with_reducible repeat (first | refine blk_drewN ?_ _ | refine blk_drew ?_ | refine blk_alloc ?_ _)); refine blk_put (cs := #[.int .i64 a0_0, .int .i64 0, .int .i64 0, .int .i64 0, .int .i64 0, .int .i64 0, .bool false, .int .i64 0, .int .i64 0, .int .i64 0, .int .i64 0, .bool false, .int .i64 0, .slice none 0 0]) ?_ 1 _ rfl; (with_reducible repeat (first | refine blk_drewN ?_ _ | refine blk_drew ?_ | refine blk_alloc ?_ _)); refine blk_put (cs := #[.int .i64 0, .int .i64 0, .int .i64 0, .int .i64 0, .int .i64 0, .int .i64 0, .bool false, .int .i64 0, .int .i64 0, .int .i64 0, .int .i64 0, .bool false, .int .i64 0, .slice none 0 0]) ?_ 0 _ rfl; (with_reducible repeat (first | refine blk_drewN ?_ _ | refine blk_drew ?_ | refine blk_alloc ?_ _)); refine blk_far ?_ NB291_290.out _; (with_reducible repeat (first | refine blk_drewN ?_ _ | refine blk_drew ?_ | refine blk_alloc ?_ _)); exact BK291.out) Try.underlying46 rfl (by kernel_rfl)) rfl ?_
    exact ⟨_, by first | rfl | (simp [errW_none, errW_some] <;> rfl) | (simp [*, errW_none, errW_some] <;> rfl), by (with_reducible repeat (first | apply Kd.R_alloc | apply Kd.R_drewN | apply Kd.R_drew)); exact Kd.R_mono (Kd.R_far (p := ⟨gb291, 13, none⟩) (Kd.R_far (p := ⟨gb291, 12, none⟩) (Kd.R_far (p := ⟨gb291, 11, none⟩) (Kd.R_far (p := ⟨gb291, 10, none⟩) (Kd.R_far (p := ⟨gb291, 9, none⟩) (Kd.R_far (p := ⟨gb291, 8, none⟩) (Kd.R_far (p := ⟨gb291, 7, none⟩) (Kd.R_far (p := ⟨gb291, 6, none⟩) (Kd.R_far (p := ⟨gb291, 5, none⟩) (Kd.R_far (p := ⟨gb291, 4, none⟩) (Kd.R_far (p := ⟨gb291, 3, none⟩) (Kd.R_far (p := ⟨gb291, 2, none⟩) (Kd.R_far (p := ⟨gb291, 1, none⟩) (Kd.R_far (p := ⟨gb291, 0, none⟩) (Kd.R_far (p := ⟨gb290, 13, none⟩) (Kd.R_mono (Kd.R_mono HO_3.out (fun k_ hk => (⟨hk, hk.1⟩ : _ ∧ k_ ≠ gb290))) (fun k_ hk => (⟨hk, hk.1.2⟩ : _ ∧ k_ ≠ gb291))) (fun _ hk => hk.1.2) (.slice Ao18 x3_1.length co18)) (fun _ hk => hk.2) (.int .i64 a0_0)) (fun _ hk => hk.2) (.int .i64 a0_1)) (fun _ hk => hk.2) (.int .i64 a0_2)) (fun _ hk => hk.2) (.int .i64 a0_3)) (fun _ hk => hk.2) (.int .i64 a0_4)) (fun _ hk => hk.2) (.int .i64 a0_5)) (fun _ hk => hk.2) (.bool a0_6)) (fun _ hk => hk.2) (.int .i64 a0_7)) (fun _ hk => hk.2) (.int .i64 a0_8)) (fun _ hk => hk.2) (.int .i64 a0_9)) (fun _ hk => hk.2) (.int .i64 a0_10)) (fun _ hk => hk.2) (.bool a0_11)) (fun _ hk => hk.2) (.int .i64 a0_12)) (fun _ hk => hk.2) (.slice Ao18 x3_1.length co18)) (fun _ hk => trivial), by repeat (first | (with_reducible first | exact HB.out | apply below_alloc | apply pw_below_drewN | apply below_drew1 | refine below_set ?_ GE290.out | refine below_set ?_ GE291.out) | exact HB.out)⟩

-- NOT PRINTED: function 77 (pred_gather_uint64)

/-! ### sets_one: function 89 -/
def sets_one.f (a0 : Int) : Option (Int) := if a0 < 0 then (some 0) else (if a0 ≥ 64 then (some 0) else (if 0 ≤ (IntKind.u64.wrap (a0)) then (some (shl .u64 1 (IntKind.u64.wrap (a0)))) else (none)))
set_option maxHeartbeats 8000000 in
set_option maxRecDepth 100000 in
theorem sets_one.calls (a0 : Int) (r : Int) (w : World) (h : sets_one.f a0 = some r) :
  Calls Try.prog 89 #[.int .i64 a0] w fun e w' => e = .returned (.int .u64 r) ∧ Drawn0 w w' := by
 have H : (if a0 < 0 then (some 0) else (if a0 ≥ 64 then (some 0) else (if 0 ≤ (IntKind.u64.wrap (a0)) then (some (shl .u64 1 (IntKind.u64.wrap (a0)))) else (none)))) = some r := h
 clear h
 by_cases c2 : a0 < 0
 ·rw [if_pos c2] at H
  have c2b0 : decide (a0 < 0) = true := decide_eq_true c2
  clear c2
  obtain rfl := Option.some.inj H
  go_enter Try.func89, Try.ntmps89
  go_wp2
  go_ret
  exact ⟨by first | rfl | (simp; done) | (simp [*]; done), by repeat (first | exact Drawn0.refl _ | apply Drawn0.step)⟩
 ·rw [if_neg c2] at H
  have c2b0 : decide (a0 < 0) = false := decide_eq_false c2
  clear c2
  by_cases c3 : a0 ≥ 64
  ·rw [if_pos c3] at H
   have c3b0 : decide (64 ≤ a0) = true := decide_eq_true c3
   clear c3
   obtain rfl := Option.some.inj H
   go_enter Try.func89, Try.ntmps89
   go_wp2
   go_ret
   exact ⟨by first | rfl | (simp; done) | (simp [*]; done), by repeat (first | exact Drawn0.refl _ | apply Drawn0.step)⟩
  ·rw [if_neg c3] at H
   have c3b0 : decide (64 ≤ a0) = false := decide_eq_false c3
   clear c3
   obtain ⟨ji4, hji4⟩ : ∃ j_ : Int, (IntKind.u64.wrap (a0)) = j_ := ⟨_, rfl⟩
   replace H : (if 0 ≤ (ji4) then (some (shl .u64 1 (ji4))) else (none)) = some r := by first | (rw [hji4] at H; exact H) | (simp only [hji4] at H ⊢; exact H)
   by_cases c5 : 0 ≤ (ji4)
   ·rw [if_pos c5] at H
    have c5b0 := eq_true c5
    have c5b1 : decide (0 ≤ (ji4)) = true := decide_eq_true c5
    clear c5
    obtain ⟨ji6, hji6⟩ : ∃ j_ : Int, (shl .u64 1 (ji4)) = j_ := ⟨_, rfl⟩
    replace H : (some ji6) = some r := by first | (rw [hji6] at H; exact H) | (simp only [hji6] at H ⊢; exact H)
    have hji6_ : (IntKind.u64.wrap (1 * 2 ^ min (ji4).toNat 64)) = ji6 := hji6
    have hji6z : (ji4) ≤ 64 → (IntKind.u64.wrap (1 * 2 ^ (ji4).toNat)) = ji6 := shl_small hji6
    have hji6u : (IntKind.u64.wrap (2 ^ min (ji4).toNat 64)) = ji6 := by have h_ := hji6_; rw [Int.one_mul] at h_; exact h_
    have hji6v : (ji4) ≤ 64 → (IntKind.u64.wrap (2 ^ (ji4).toNat)) = ji6 := fun hle_ => by have h_ := hji6z hle_; rw [Int.one_mul] at h_; exact h_
    obtain rfl := Option.some.inj H
    go_enter Try.func89, Try.ntmps89
    go_wp2
    go_ret
    exact ⟨by first | rfl | (simp; done) | (simp only [← hji4, ← hji6] <;> (first | rfl | simp)) | (simp [*]; done), by repeat (first | exact Drawn0.refl _ | apply Drawn0.step)⟩
   ·rw [if_neg c5] at H
    exact absurd H (by simp)

/-! ### sets_Of: function 50 -/
def sets_Of.l0 : Nat → Int → List Int → Int → Int → Option (Int)
 | 0, _, _, _, _ => none
 | k + 1, x3, x6, x7, x8 => if x8 < x7 then (if 0 ≤ x8 then (if x8 < (x6.length : Int) then ((sets_one.f (rd x6 x8)).bind fun t314 => (sets_Of.l0 k (Go.bits .or .u64 x3 t314) x6 x7 (wrap64 (x8 + 1)))) else (none)) else (none)) else (some x3)
def sets_Of.f (k : Nat) (l0 : List Int) : Option (Int) := sets_Of.l0 k 0 l0 (l0.length : Int) 0
theorem sets_Of.mono_l : ∀ k, (∀ y0 y1 y2 y3, LeO (sets_Of.l0 k y0 y1 y2 y3) (sets_Of.l0 (k + 1) y0 y1 y2 y3))
 | 0 => fun _ _ _ _ r h => by simp [sets_Of.l0] at h
 | k + 1 => by
  have ih0 := sets_Of.mono_l k
  ·intro y0 y1 y2 y3
   unfold sets_Of.l0
   repeat' first
   | (with_reducible exact ih0 _ _ _ _)
   | (with_reducible exact LeO.refl _)
   | (with_reducible exact LeO.none _)
   | (with_reducible refine LeO.ite ?_ ?_)
   | (with_reducible refine LeO.bind ?_ (fun _ => ?_))
   | exact ih0 _ _ _ _
   | exact LeO.none _
   | refine LeO.ite ?_ ?_
   | refine LeO.bind ?_ (fun _ => ?_)
theorem sets_Of.mono : ∀ a0 k, LeO (sets_Of.f k a0) (sets_Of.f (k + 1) a0) := by
 intro a0 k
 have ih0 := sets_Of.mono_l k
 unfold sets_Of.f
 repeat' first
   | (with_reducible exact ih0 _ _ _ _)
   | (with_reducible exact LeO.refl _)
   | (with_reducible exact LeO.none _)
   | (with_reducible refine LeO.ite ?_ ?_)
   | (with_reducible refine LeO.bind ?_ (fun _ => ?_))
   | exact ih0 _ _ _ _
   | exact LeO.none _
   | refine LeO.ite ?_ ?_
   | refine LeO.bind ?_ (fun _ => ?_)
set_option maxHeartbeats 8000000 in
set_option maxRecDepth 100000 in
theorem sets_Of.calls (k : Nat) (A0 : Option Addr) (c0 : Nat) (l0 : List Int) (r : Int) (w : World) (hr0 : Kd.C (Kd.int .i64) w A0 l0.length l0) (hc0 : l0.length ≤ c0) (h : sets_Of.f k l0 = some r) :
  Calls Try.prog 50 #[.slice A0 l0.length c0] w fun e w' => e = .returned (.int .u64 r) ∧ Drawn0 w w' := by
 have HR0 := Aside0.mk hr0
 have HC0 := Aside0.mk hc0
 clear hr0 hc0
 have H : (sets_Of.l0 k 0 l0 (l0.length : Int) 0) = some r := h
 clear h
 have H' := Aside0.mk H
 clear H
 go_enter Try.func50, Try.ntmps50
 go_wp2
 go_loopg [3, 8] k (fun kq v3 v8 w' => ∃ (x3_1 : Int) (x8_1 : Int), v3 = .int .u64 x3_1 ∧ v8 = .int .i64 x8_1 ∧ Aside0 (sets_Of.l0 kq x3_1 l0 (l0.length : Int) x8_1 = some r) ∧ Aside0 (kq ≤ k) ∧ Drawn0 w w')
 case atStart => exact ⟨(0), (0), (by first | rfl | (simp; done) | (simp [*]; done) | (simp; decide)), (by first | rfl | (simp; done) | (simp [*]; done) | (simp; decide)), H', ⟨Nat.le_refl _⟩, by repeat (first | exact Drawn0.refl _ | apply Drawn0.step)⟩
 case round =>
  clear H'
  obtain ⟨x3_1, x8_1, rfl, rfl, HA, HK1, ⟨m1, rfl⟩⟩ := hrel
  cases gk with
  | zero => exact absurd HA.out (by simp [sets_Of.l0])
  | succ k1 =>
   have H := HA.out
   clear HA
   simp only [sets_Of.l0] at H
   by_cases c2 : x8_1 < (l0.length : Int)
   ·rw [if_pos c2] at H
    have c2b0 : decide (x8_1 < (l0.length : Int)) = true := decide_eq_true c2
    clear c2
    by_cases c3 : 0 ≤ x8_1
    ·rw [if_pos c3] at H
     have c3b0 : decide (0 ≤ x8_1) = true := decide_eq_true c3
     clear c3
     by_cases c4 : x8_1 < (l0.length : Int)
     ·rw [if_pos c4] at H
      have c4b0 : decide (x8_1 < (l0.length : Int)) = true := decide_eq_true c4
      clear c4
      replace H := Option.bind_eq_some_iff.mp H
      obtain ⟨t314, A50, H⟩ := H
      replace H : (sets_Of.l0 k1 (Go.bits .or .u64 x3_1 t314) l0 (l0.length : Int) (wrap64 (x8_1 + 1))) = some r := H
      have A5 := Aside0.mk A50
      clear A50
      have H' := Aside0.mk H
      clear H
      have p313 : 0 ≤ (x8_1 : Int) := of_decide_eq_true (by first | (with_reducible assumption) | assumption)
      have q313 : x8_1 < (l0.length : Int) := of_decide_eq_true (by first | (with_reducible assumption) | assumption)
      obtain ⟨ad313, e313, hx313_0⟩ := Kd.at_int HR0.out x8_1 p313 q313
      cases e313
      replace p313 := eq_true p313
      replace q313 := eq_true q313
      go_wp2_with (first | ((with_reducible refine gate_callee (f := 89) rfl ?_); refine goesL_ (some 14) rfl rfl Try.func89 (by kernel_rfl) rfl #[.int .i64 (rd l0 x8_1)] rfl (by (try simp only [List.map_toArray, List.map_cons, List.map_nil]); first | done | rfl | (simp only [List.length_drop, List.length_take]; rfl)) ?_; (with_reducible refine (sets_one.calls (rd l0 x8_1) t314 _ A5.out).mono ?_); rintro e w' ⟨rfl, ⟨nd, rfl⟩⟩; refine ⟨_, rfl, ?_⟩))
      go_roundg k1
      case measure => have := HK1.out; omega
      case rel => exact ⟨(Go.bits .or .u64 x3_1 t314), (wrap64 (x8_1 + 1)), (by first | rfl | (simp; done) | (simp [*]; done) | (simp; decide)), (by first | rfl | (simp; done) | (simp [*]; done) | (simp; decide)), H', ⟨by have := HK1.out; omega⟩, by repeat (first | exact Drawn0.refl _ | apply Drawn0.step)⟩
     ·rw [if_neg c4] at H
      exact absurd H (by simp)
    ·rw [if_neg c3] at H
     exact absurd H (by simp)
   ·rw [if_neg c2] at H
    have c2b0 : decide (x8_1 < (l0.length : Int)) = false := decide_eq_false c2
    clear c2
    obtain rfl := Option.some.inj H
    go_wp2
    go_ret
    exact ⟨by first | rfl | (simp; done) | (simp [*]; done), by repeat (first | exact Drawn0.refl _ | apply Drawn0.step)⟩

/-! ### term_Tables: function 79 -/
def term_Tables.f (k : Nat) (a0_0 : Int) (a0_1 : Int) (a0_2 : Int) (a0_3 : Bool) (a0_4 : Int) : Option (Int) := if a0_0 = 1 then ((sets_Of.f k (([a0_1] : List Int))).bind fun t319 => (some t319)) else (some 0)
theorem term_Tables.mono : ∀ a0 a1 a2 a3 a4 k, LeO (term_Tables.f k a0 a1 a2 a3 a4) (term_Tables.f (k + 1) a0 a1 a2 a3 a4) := by
 intro a0 a1 a2 a3 a4 k
 unfold term_Tables.f
 repeat' first
   | (with_reducible exact sets_Of.mono _ _)
   | (with_reducible exact LeO.refl _)
   | (with_reducible exact LeO.none _)
   | (with_reducible refine LeO.ite ?_ ?_)
   | (with_reducible refine LeO.bind ?_ (fun _ => ?_))
   | exact sets_Of.mono _ _
   | exact LeO.none _
   | refine LeO.ite ?_ ?_
   | refine LeO.bind ?_ (fun _ => ?_)
set_option maxHeartbeats 8000000 in
set_option maxRecDepth 100000 in
theorem term_Tables.calls (k : Nat) (a0_0 : Int) (a0_1 : Int) (a0_2 : Int) (a0_3 : Bool) (a0_4 : Int) (r : Int) (w : World) (h : term_Tables.f k a0_0 a0_1 a0_2 a0_3 a0_4 = some r) :
  Calls Try.prog 79 #[.agg #[.int .i64 a0_0, .int .i64 a0_1, .int .i64 a0_2, .bool a0_3, .int .i64 a0_4]] w fun e w' => e = .returned (.int .u64 r) ∧ Below w.heap.size w w' := by
 have hu44 := Try.underlying44
 have HB := Aside0.mk (Below.refl w.heap.size w)
 have H : (if a0_0 = 1 then ((sets_Of.f k (([a0_1] : List Int))).bind fun t319 => (some t319)) else (some 0)) = some r := h
 clear h
 by_cases c2 : a0_0 = 1
 ·rw [if_pos c2] at H
  have c2b0 : (a0_0 == 1) = true := beq_iff_eq.mpr c2
  have c2b1 : (a0_0 != 1) = false := bne_eq_false_iff_eq.mpr c2
  clear c2
  obtain ⟨y316, hy316⟩ : ∃ y_ : List Int, y_ = (([a0_1] : List Int)) := ⟨_, rfl⟩
  replace H : ((sets_Of.f k y316).bind fun t319 => (some t319)) = some r := by first | (rw [hy316]; with_reducible exact H) | (have H2_ := (Option.bind_some _ _).symm.trans H; rw [hy316]; with_reducible exact H2_) | (have H2_ := (Option.bind_some _ _).symm.trans H; with_reducible exact H2_) | with_reducible exact H | (rw [hy316]; exact H) | exact H
  have Ny316 := Aside0.mk hy316
  clear hy316
  replace H := Option.bind_eq_some_iff.mp H
  obtain ⟨t319, A30, H⟩ := H
  replace H : (some t319) = some r := H
  have A3 := Aside0.mk A30
  clear A30
  obtain rfl := Option.some.inj H
  go_enter Try.func79, Try.ntmps79
  go_wp2_with (first | ((with_reducible refine gate_dst (N := 1) rfl ?_); refine box_event ?hg (N := 1) ?hd (cs := #[.int .i64 a0_0, .int .i64 a0_1, .int .i64 a0_2, .bool a0_3, .int .i64 a0_4]) (t := 44) ?hr ?_; (case hd => rfl); (case hg => rfl); (case hr => first | (go_simp; done) | (go_simp; rfl)); intro gb315 hg w4 hbox hb; have n0_ := Aside0.mk (below_step (by repeat (first | (with_reducible first | exact HB.out | apply below_alloc | apply pw_below_drewN | apply below_drew1) | exact HB.out)) hb); have n1_ := Aside0.mk (hbox); have n2_ := Aside0.mk ((by rw [hg]; exact (below_size (by repeat (first | (with_reducible first | exact HB.out | apply below_alloc | apply pw_below_drewN | apply below_drew1) | exact HB.out))) : w.heap.size ≤ gb315)); have n3_ := n2_; clear HB; have HB := n0_; have BK315 := n1_; have GW315 := n2_; have GE315 := n3_; clear n0_ n1_ n2_ n3_; clear hb hbox hg; have hcz5 := blk_cell BK315.out; have hfz5 := blk_frozen BK315.out; have hfz5_4 := blk_frozen BK315.out 4) | ((with_reducible refine gate_dst (N := 8) rfl ?_); refine Kd.R_lit (Kd.int .i64) _ 3 ?hg (N := 8) ?hd (xs := ([a0_1] : List Int)) (inner := [.int .i64 a0_1]) (ok := fun _ => True) (okp := fun _ => True) ?hr ?hp (fun _ hk => hk) trivial (Below.refl _ _) (Nat.le_refl _) (by simp) ?_; (case hd => rfl); (case hg => rfl); (case hr => first | (go_simp; done) | (go_simp; rfl)); (case hp => exact (Reps.one (show Kd.M (Kd.int .i64) _ _ _ a0_1 [.int .i64 a0_1] from rfl) (Reps.none _ _))); intro v317 w6 ho7 hb hg_ hnew_; clear hg_ hnew_; (first | rw [← Ny316.out] at ho7 | (simp only [Int.reduceToNat] at ho7; rw [← Ny316.out] at ho7)); have n0_ := Aside0.mk (Kd.R_lower ho7 (below_size (by repeat (first | (with_reducible first | exact HB.out | apply below_alloc | apply pw_below_drewN | apply below_drew1 | refine below_set ?_ GE315.out) | exact HB.out)))); have n1_ := Aside0.mk (blk_below (by (with_reducible repeat (first | refine blk_drewN ?_ _ | refine blk_drew ?_ | refine blk_alloc ?_ _)); exact BK315.out) hb); have n2_ := Aside0.mk (below_step (by repeat (first | (with_reducible first | exact HB.out | apply below_alloc | apply pw_below_drewN | apply below_drew1 | refine below_set ?_ GE315.out) | exact HB.out)) hb); clear BK315; clear HB; have HO318 := n0_; have BK315 := n1_; have HB := n2_; clear n0_ n1_ n2_; clear hb ho7; obtain ⟨Ao8, co8, eo8⟩ := Kd.R_slice HO318.out; subst eo8) | ((with_reducible refine gate_callee (f := 50) rfl ?_); refine goesL_ (some 9) rfl rfl Try.func50 (by kernel_rfl) rfl #[.slice Ao8 y316.length co8] rfl (by (try simp only [List.map_toArray, List.map_cons, List.map_nil]); first | done | rfl | (simp only [List.length_drop, List.length_take]; rfl)) ?_; (with_reducible refine (sets_Of.calls k _ _ y316 t319 _ ?side1 ?side2 A3.out).mono ?_); (case side1 => repeat (first | exact (Kd.R_reads' HO318.out).2.2 | (with_reducible refine Kd.C_alloc ?_ _) | (with_reducible refine Kd.C_drewN ?_ _) | (with_reducible refine Kd.C_drew ?_))); (case side2 => exact (Kd.R_reads' HO318.out).2.1); rintro e w' ⟨rfl, ⟨nd, rfl⟩⟩; refine ⟨_, rfl, ?_⟩))
  go_ret
  exact ⟨by first | rfl | (simp [errW_none, errW_some] <;> rfl) | (simp [*, errW_none, errW_some] <;> rfl), by repeat (first | (with_reducible first | exact HB.out | apply below_alloc | apply pw_below_drewN | apply below_drew1 | refine below_set ?_ GE315.out) | exact HB.out)⟩
 ·rw [if_neg c2] at H
  have c2b0 : (a0_0 == 1) = false := beq_eq_false_iff_ne.mpr c2
  have c2b1 : (a0_0 != 1) = true := bne_iff_ne.mpr c2
  obtain rfl := Option.some.inj H
  go_enter Try.func79, Try.ntmps79
  go_wp2_with (first | ((with_reducible refine gate_dst (N := 1) rfl ?_); refine box_event ?hg (N := 1) ?hd (cs := #[.int .i64 a0_0, .int .i64 a0_1, .int .i64 a0_2, .bool a0_3, .int .i64 a0_4]) (t := 44) ?hr ?_; (case hd => rfl); (case hg => rfl); (case hr => first | (go_simp; done) | (go_simp; rfl)); intro gb315 hg w9 hbox hb; have n0_ := Aside0.mk (below_step (by repeat (first | (with_reducible first | exact HB.out | apply below_alloc | apply pw_below_drewN | apply below_drew1) | exact HB.out)) hb); have n1_ := Aside0.mk (hbox); have n2_ := Aside0.mk ((by rw [hg]; exact (below_size (by repeat (first | (with_reducible first | exact HB.out | apply below_alloc | apply pw_below_drewN | apply below_drew1) | exact HB.out))) : w.heap.size ≤ gb315)); have n3_ := n2_; clear HB; have HB := n0_; have BK315 := n1_; have GW315 := n2_; have GE315 := n3_; clear n0_ n1_ n2_ n3_; clear hb hbox hg; have hcz10 := blk_cell BK315.out; have hfz10 := blk_frozen BK315.out; have hfz10_4 := blk_frozen BK315.out 4))
  go_ret
  exact ⟨by first | rfl | (simp [errW_none, errW_some] <;> rfl) | (simp [*, errW_none, errW_some] <;> rfl), by repeat (first | (with_reducible first | exact HB.out | apply below_alloc | apply pw_below_drewN | apply below_drew1 | refine below_set ?_ GE315.out) | exact HB.out)⟩

/-! ### pred_Tables_1: function 78 -/
def pred_Tables_1.f (k : Nat) (a0_0 : Int) (a0_1 : Int) (a0_2 : Int) (a0_3 : Int) (a0_4 : Int) (a0_5 : Int) (a0_6 : Bool) (a0_7 : Int) (a0_8 : Int) (a0_9 : Int) (a0_10 : Int) (a0_11 : Bool) (a0_12 : Int) (l0_13 : List (S46)) : Option (List Int) := (term_Tables.f k a0_3 a0_4 a0_5 a0_6 a0_7).bind fun t321 => ((term_Tables.f k a0_8 a0_9 a0_10 a0_11 a0_12).bind fun t322 => (some (([Go.bits .or .u64 t321 t322] : List Int))))
theorem pred_Tables_1.mono : ∀ a0 a1 a2 a3 a4 a5 a6 a7 a8 a9 a10 a11 a12 a13 k, LeO (pred_Tables_1.f k a0 a1 a2 a3 a4 a5 a6 a7 a8 a9 a10 a11 a12 a13) (pred_Tables_1.f (k + 1) a0 a1 a2 a3 a4 a5 a6 a7 a8 a9 a10 a11 a12 a13) := by
 intro a0 a1 a2 a3 a4 a5 a6 a7 a8 a9 a10 a11 a12 a13 k
 unfold pred_Tables_1.f
 repeat' first
   | (with_reducible exact term_Tables.mono _ _ _ _ _ _)
   | (with_reducible exact LeO.refl _)
   | (with_reducible exact LeO.none _)
   | (with_reducible refine LeO.ite ?_ ?_)
   | (with_reducible refine LeO.bind ?_ (fun _ => ?_))
   | exact term_Tables.mono _ _ _ _ _ _
   | exact LeO.none _
   | refine LeO.ite ?_ ?_
   | refine LeO.bind ?_ (fun _ => ?_)
def pred_Tables_1.T1 : Bool × List (List Nat × List Nat) := (true, [([], []), ([0], [0]), ([1], [1]), ([], []), ([3], [3]), ([4, 2], [4]), ([2, 5], [2, 5]), ([6], [6]), ([7, 5, 0, 1, 2, 3, 4, 5, 6, 7], [7])])
def pred_Tables_1.B1 : List Nat := [0, 1, 3, 0, 8, 31, 63, 127, 255]
theorem pred_Tables_1.tab1 : rtab .any (opsOf Try.f78 1) = pred_Tables_1.T1 := by kernel_rfl
theorem pred_Tables_1.bits1 : waitsOk pred_Tables_1.T1.2 pred_Tables_1.B1 = true := by kernel_rfl
set_option maxHeartbeats 8000000 in
set_option maxRecDepth 100000 in
theorem pred_Tables_1.calls (k : Nat) (a0_0 : Int) (a0_1 : Int) (a0_2 : Int) (a0_3 : Int) (a0_4 : Int) (a0_5 : Int) (a0_6 : Bool) (a0_7 : Int) (a0_8 : Int) (a0_9 : Int) (a0_10 : Int) (a0_11 : Bool) (a0_12 : Int) (A0_13 : Option Addr) (c0_13 : Nat) (l0_13 : List (S46)) (r : List Int) (w : World) (hr0_13 : Kd.C k46 w A0_13 l0_13.length l0_13) (hc0_13 : l0_13.length ≤ c0_13) (h : pred_Tables_1.f k a0_0 a0_1 a0_2 a0_3 a0_4 a0_5 a0_6 a0_7 a0_8 a0_9 a0_10 a0_11 a0_12 l0_13 = some r) :
  Calls Try.prog 78 #[.agg #[.int .i64 a0_0, .int .i64 a0_1, .int .i64 a0_2, .int .i64 a0_3, .int .i64 a0_4, .int .i64 a0_5, .bool a0_6, .int .i64 a0_7, .int .i64 a0_8, .int .i64 a0_9, .int .i64 a0_10, .bool a0_11, .int .i64 a0_12, .slice A0_13 l0_13.length c0_13]] w fun e w' => ∃ v0_ : Value, e = .returned (v0_) ∧ Kd.R (Kd.int .u64) 28 w' w.heap.size (fun _ => True) v0_ r ∧ Below w.heap.size w w' := by
 have hu46 := Try.underlying46
 have hu44 := Try.underlying44
 have HR0_13 := Aside0.mk hr0_13
 have HC0_13 := Aside0.mk hc0_13
 clear hr0_13 hc0_13
 have HB := Aside0.mk (Below.refl w.heap.size w)
 have H : ((term_Tables.f k a0_3 a0_4 a0_5 a0_6 a0_7).bind fun t321 => ((term_Tables.f k a0_8 a0_9 a0_10 a0_11 a0_12).bind fun t322 => (some (([Go.bits .or .u64 t321 t322] : List Int))))) = some r := h
 clear h
 replace H := Option.bind_eq_some_iff.mp H
 obtain ⟨t321, A20, H⟩ := H
 replace H : ((term_Tables.f k a0_8 a0_9 a0_10 a0_11 a0_12).bind fun t322 => (some (([Go.bits .or .u64 t321 t322] : List Int)))) = some r := H
 have A2 := Aside0.mk A20
 clear A20
 replace H := Option.bind_eq_some_iff.mp H
 obtain ⟨t322, A30, H⟩ := H
 replace H : (some (([Go.bits .or .u64 t321 t322] : List Int))) = some r := H
 have A3 := Aside0.mk A30
 clear A30
 obtain ⟨y323, hy323⟩ : ∃ y_ : List Int, y_ = (([Go.bits .or .u64 t321 t322] : List Int)) := ⟨_, rfl⟩
 replace H : (some y323) = some r := by first | (rw [hy323]; with_reducible exact H) | (have H2_ := (Option.bind_some _ _).symm.trans H; rw [hy323]; with_reducible exact H2_) | (have H2_ := (Option.bind_some _ _).symm.trans H; with_reducible exact H2_) | with_reducible exact H | (rw [hy323]; exact H) | exact H
 have Ny323 := Aside0.mk hy323
 clear hy323
 obtain rfl := Option.some.inj H
 go_enter Try.func78, Try.ntmps78
 try go_wp2_with (first | ((with_reducible refine gate_dst (N := 1) rfl ?_); refine box_event ?hg (N := 1) ?hd (cs := #[.int .i64 a0_0, .int .i64 a0_1, .int .i64 a0_2, .int .i64 a0_3, .int .i64 a0_4, .int .i64 a0_5, .bool a0_6, .int .i64 a0_7, .int .i64 a0_8, .int .i64 a0_9, .int .i64 a0_10, .bool a0_11, .int .i64 a0_12, .slice A0_13 l0_13.length c0_13]) (t := 46) ?hr ?_; (case hd => rfl); (case hg => rfl); (case hr => first | (go_simp; done) | (go_simp; rfl)); intro gb320 hg w4 hbox hb; have n0_ := Aside0.mk (below_step (by repeat (first | (with_reducible first | exact HB.out | apply below_alloc | apply pw_below_drewN | apply below_drew1) | exact HB.out)) hb); have n1_ := Aside0.mk (hbox); have n2_ := Aside0.mk ((by rw [hg]; exact (below_size (by repeat (first | (with_reducible first | exact HB.out | apply below_alloc | apply pw_below_drewN | apply below_drew1) | exact HB.out))) : w.heap.size ≤ gb320)); have n3_ := n2_; clear HB; have HB := n0_; have BK320 := n1_; have GW320 := n2_; have GE320 := n3_; clear n0_ n1_ n2_ n3_; clear hb hbox hg))
 have n0_ := Aside0.mk (blk_drew BK320.out)
 have n1_ := Aside0.mk (below_drew1 HB.out)
 clear BK320
 clear HB
 have BK320 := n0_
 have HB := n1_
 clear n0_ n1_
 refine start_ (n := 9) (S := fun w' => w'.cell? ⟨gb320, 0, none⟩ = some (.int .i64 a0_0) ∧ w'.cell? ⟨gb320, 1, none⟩ = some (.int .i64 a0_1) ∧ w'.cell? ⟨gb320, 2, none⟩ = some (.int .i64 a0_2) ∧ w'.cell? ⟨gb320, 3, none⟩ = some (.int .i64 a0_3) ∧ w'.cell? ⟨gb320, 4, none⟩ = some (.int .i64 a0_4) ∧ w'.cell? ⟨gb320, 5, none⟩ = some (.int .i64 a0_5) ∧ w'.cell? ⟨gb320, 6, none⟩ = some (.bool a0_6) ∧ w'.cell? ⟨gb320, 7, none⟩ = some (.int .i64 a0_7) ∧ w'.cell? ⟨gb320, 8, none⟩ = some (.int .i64 a0_8) ∧ w'.cell? ⟨gb320, 9, none⟩ = some (.int .i64 a0_9) ∧ w'.cell? ⟨gb320, 10, none⟩ = some (.int .i64 a0_10) ∧ w'.cell? ⟨gb320, 11, none⟩ = some (.bool a0_11) ∧ w'.cell? ⟨gb320, 12, none⟩ = some (.int .i64 a0_12) ∧ w'.cell? ⟨gb320, 13, none⟩ = some (.slice A0_13 l0_13.length c0_13)) (ds := []) #[false, false, false, false, false, false, false, false, false] (by kernel_rfl) rfl rfl ⟨(blk_cell BK320.out 0).trans rfl, (blk_cell BK320.out 1).trans rfl, (blk_cell BK320.out 2).trans rfl, (blk_cell BK320.out 3).trans rfl, (blk_cell BK320.out 4).trans rfl, (blk_cell BK320.out 5).trans rfl, (blk_cell BK320.out 6).trans rfl, (blk_cell BK320.out 7).trans rfl, (blk_cell BK320.out 8).trans rfl, (blk_cell BK320.out 9).trans rfl, (blk_cell BK320.out 10).trans rfl, (blk_cell BK320.out 11).trans rfl, (blk_cell BK320.out 12).trans rfl, (blk_cell BK320.out 13).trans rfl⟩ (fun hHeld => ?_); refine with_tabW pred_Tables_1.tab1 pred_Tables_1.bits1 (fun HT_ HW_ => ?_)
 generalize w4.drew = w5 at BK320 HB hHeld ⊢
 refine pure_ (i := 0) (N := some 3) (v := ?_) (a' := ?_) #[true, false, false, false, false, false, false, false, false] rfl rfl (any_of HT_.out (by kernel_rfl)) (fun _ _ _ h => h) (Or.inl ⟨by rfl, ?_⟩) ?_ ?_
 rotate_left
 ·intro w'
  go_simp
  with_reducible rfl
 rotate_left
 ·simp only [Act.put, List.setIfInBounds_toArray, List.set_cons_zero, List.set_cons_succ, i64_w, i32_w]
  rfl
 refine pure_ (i := 3) (N := some 6) (v := ?_) (a' := ?_) #[true, false, false, true, false, false, false, false, false] rfl rfl (any_of HT_.out (by kernel_rfl)) (fun _ _ _ h => h) (Or.inl ⟨by rfl, ?_⟩) ?_ ?_
 rotate_left
 ·intro w'
  go_simp
  with_reducible rfl
 rotate_left
 ·simp only [Act.put, List.setIfInBounds_toArray, List.set_cons_zero, List.set_cons_succ, i64_w, i32_w]
  rfl
 refine take_ (i := 1) (N := some 4) (v := ?_) (a' := ?_) #[true, true, false, true, false, false, false, false, false] rfl rfl (take_ofW HT_.out HW_.out (by kernel_rfl)) (fun _ _ _ h => h) (Or.inl ⟨by rfl, ?_⟩) hHeld ?_ ?_
 rotate_left
 ·rintro w' ⟨s0, s1, s2, s3, s4, s5, s6, s7, s8, s9, s10, s11, s12, s13⟩
  go_simp
  with_reducible rfl
 rotate_left
 ·simp only [Act.put, List.setIfInBounds_toArray, List.set_cons_zero, List.set_cons_succ, i64_w, i32_w]
  rfl
 refine take_ (i := 4) (N := some 7) (v := ?_) (a' := ?_) #[true, true, false, true, true, false, false, false, false] rfl rfl (take_ofW HT_.out HW_.out (by kernel_rfl)) (fun _ _ _ h => h) (Or.inl ⟨by rfl, ?_⟩) hHeld ?_ ?_
 rotate_left
 ·rintro w' ⟨s0, s1, s2, s3, s4, s5, s6, s7, s8, s9, s10, s11, s12, s13⟩
  go_simp
  with_reducible rfl
 rotate_left
 ·simp only [Act.put, List.setIfInBounds_toArray, List.set_cons_zero, List.set_cons_succ, i64_w, i32_w]
  rfl
 refine one_ (i := 2) (N := some 5) #[true, true, true, true, true, false, false, false, false] rfl rfl (one_of HT_.out (by kernel_rfl)) (by decide) (fun K hK => ?_)
 refine goes_ Try.func79 (by kernel_rfl) rfl #[.agg #[.int .i64 a0_3, .int .i64 a0_4, .int .i64 a0_5, .bool a0_6, .int .i64 a0_7]] (by rfl) rfl rfl (by (try simp only [List.map_toArray, List.map_cons, List.map_nil]); first | done | rfl | (simp only [List.length_drop, List.length_take]; rfl)) ?_
 with_reducible refine (term_Tables.calls k a0_3 a0_4 a0_5 a0_6 a0_7 t321 _ A2.out).mono ?_
 rintro e w6 ⟨rfl, hb⟩
 refine ⟨_, rfl, ?_⟩
 have n0_ := Aside0.mk (blk_below (by (with_reducible repeat (first | refine blk_drewN ?_ _ | refine blk_drew ?_ | refine blk_alloc ?_ _)); exact BK320.out) hb)
 have n1_ := Aside0.mk (below_step (by repeat (first | (with_reducible first | exact HB.out | apply below_alloc | apply pw_below_drewN | apply below_drew1 | refine below_set ?_ GE320.out) | exact HB.out)) hb)
 clear BK320
 clear HB
 have BK320 := n0_
 have HB := n1_
 clear n0_ n1_
 (try clear hb)
 (try clear hb2)
 (try clear hk)
 (try clear hi)
 refine hK.out _ _ ⟨(blk_cell BK320.out 0).trans rfl, (blk_cell BK320.out 1).trans rfl, (blk_cell BK320.out 2).trans rfl, (blk_cell BK320.out 3).trans rfl, (blk_cell BK320.out 4).trans rfl, (blk_cell BK320.out 5).trans rfl, (blk_cell BK320.out 6).trans rfl, (blk_cell BK320.out 7).trans rfl, (blk_cell BK320.out 8).trans rfl, (blk_cell BK320.out 9).trans rfl, (blk_cell BK320.out 10).trans rfl, (blk_cell BK320.out 11).trans rfl, (blk_cell BK320.out 12).trans rfl, (blk_cell BK320.out 13).trans rfl⟩ (fun hHeld => ?_)
 clear hK K
 refine norm_ (a' := ?_) ?_ ?_
 rotate_left
 ·show Act.put _ (some 5) _ = _
  simp only [Act.put, List.setIfInBounds_toArray, List.set_cons_zero, List.set_cons_succ, i64_w, i32_w]
  rfl
 refine one_ (i := 5) (N := some 8) #[true, true, true, true, true, true, false, false, false] rfl rfl (one_of HT_.out (by kernel_rfl)) (by decide) (fun K hK => ?_)
 refine goes_ Try.func79 (by kernel_rfl) rfl #[.agg #[.int .i64 a0_8, .int .i64 a0_9, .int .i64 a0_10, .bool a0_11, .int .i64 a0_12]] (by rfl) rfl rfl (by (try simp only [List.map_toArray, List.map_cons, List.map_nil]); first | done | rfl | (simp only [List.length_drop, List.length_take]; rfl)) ?_
 with_reducible refine (term_Tables.calls k a0_8 a0_9 a0_10 a0_11 a0_12 t322 _ A3.out).mono ?_
 rintro e w7 ⟨rfl, hb⟩
 refine ⟨_, rfl, ?_⟩
 have n0_ := Aside0.mk (blk_below (by (with_reducible repeat (first | refine blk_drewN ?_ _ | refine blk_drew ?_ | refine blk_alloc ?_ _)); exact BK320.out) hb)
 have n1_ := Aside0.mk (below_step (by repeat (first | (with_reducible first | exact HB.out | apply below_alloc | apply pw_below_drewN | apply below_drew1 | refine below_set ?_ GE320.out) | exact HB.out)) hb)
 clear BK320
 clear HB
 have BK320 := n0_
 have HB := n1_
 clear n0_ n1_
 (try clear hb)
 (try clear hb2)
 (try clear hk)
 (try clear hi)
 refine hK.out _ _ ⟨(blk_cell BK320.out 0).trans rfl, (blk_cell BK320.out 1).trans rfl, (blk_cell BK320.out 2).trans rfl, (blk_cell BK320.out 3).trans rfl, (blk_cell BK320.out 4).trans rfl, (blk_cell BK320.out 5).trans rfl, (blk_cell BK320.out 6).trans rfl, (blk_cell BK320.out 7).trans rfl, (blk_cell BK320.out 8).trans rfl, (blk_cell BK320.out 9).trans rfl, (blk_cell BK320.out 10).trans rfl, (blk_cell BK320.out 11).trans rfl, (blk_cell BK320.out 12).trans rfl, (blk_cell BK320.out 13).trans rfl⟩ (fun hHeld => ?_)
 clear hK K
 refine norm_ (a' := ?_) ?_ ?_
 rotate_left
 ·show Act.put _ (some 8) _ = _
  simp only [Act.put, List.setIfInBounds_toArray, List.set_cons_zero, List.set_cons_succ, i64_w, i32_w]
  rfl
 refine pure_ (i := 6) (N := some 9) (v := ?_) (a' := ?_) #[true, true, true, true, true, true, true, false, false] rfl rfl (any_of HT_.out (by kernel_rfl)) (fun _ _ _ h => h) (Or.inl ⟨by rfl, ?_⟩) ?_ ?_
 rotate_left
 ·intro w'
  go_simp
  with_reducible rfl
 rotate_left
 ·simp only [Act.put, List.setIfInBounds_toArray, List.set_cons_zero, List.set_cons_succ, i64_w, i32_w]
  rfl
 refine one_ (i := 7) (N := some 10) #[true, true, true, true, true, true, true, true, false] rfl rfl (one_of HT_.out (by kernel_rfl)) (by decide) (fun K hK => ?_)
 refine Kd.R_lit_step (Kd.int .u64) _ 28 ?hg (N := 10) ?hd (xs := ([Go.bits .or .u64 t321 t322] : List Int)) (inner := [.int .u64 (Go.bits .or .u64 t321 t322)]) (ok := fun _ => True) (okp := fun _ => True) ?hr ?hp (fun _ hk => hk) trivial (Below.refl _ _) (Nat.le_refl _) (by simp) ?_; (case hd => rfl); (case hg => rfl); (case hr => first | (go_simp; done) | (go_simp; rfl)); (case hp => exact (Reps.one (show Kd.M (Kd.int .u64) _ _ _ (Go.bits .or .u64 t321 t322) [.int .u64 (Go.bits .or .u64 t321 t322)] from rfl) (Reps.none _ _)))
 intro v324 w8 ho9 hb hg_ hnew_
 clear hg_ hnew_
 (first | rw [← Ny323.out] at ho9 | (simp only [Int.reduceToNat] at ho9; rw [← Ny323.out] at ho9))
 have n0_ := Aside0.mk (Kd.R_lower ho9 (below_size (by repeat (first | (with_reducible first | exact HB.out | apply below_alloc | apply pw_below_drewN | apply below_drew1 | refine below_set ?_ GE320.out) | exact HB.out))))
 have n1_ := Aside0.mk (blk_below (by (with_reducible repeat (first | refine blk_drewN ?_ _ | refine blk_drew ?_ | refine blk_alloc ?_ _)); exact BK320.out) hb)
 have n2_ := Aside0.mk (below_step (by repeat (first | (with_reducible first | exact HB.out | apply below_alloc | apply pw_below_drewN | apply below_drew1 | refine below_set ?_ GE320.out) | exact HB.out)) hb)
 clear BK320
 clear HB
 have HO325 := n0_
 have BK320 := n1_
 have HB := n2_
 clear n0_ n1_ n2_
 clear hb ho9
 refine hK.out _ _ ⟨(blk_cell BK320.out 0).trans rfl, (blk_cell BK320.out 1).trans rfl, (blk_cell BK320.out 2).trans rfl, (blk_cell BK320.out 3).trans rfl, (blk_cell BK320.out 4).trans rfl, (blk_cell BK320.out 5).trans rfl, (blk_cell BK320.out 6).trans rfl, (blk_cell BK320.out 7).trans rfl, (blk_cell BK320.out 8).trans rfl, (blk_cell BK320.out 9).trans rfl, (blk_cell BK320.out 10).trans rfl, (blk_cell BK320.out 11).trans rfl, (blk_cell BK320.out 12).trans rfl, (blk_cell BK320.out 13).trans rfl⟩ (fun hHeld => ?_)
 clear hK K
 refine norm_ (a' := ?_) ?_ ?_
 rotate_left
 ·show Act.put _ (some 10) _ = _
  simp only [Act.put, List.setIfInBounds_toArray, List.set_cons_zero, List.set_cons_succ, i64_w, i32_w]
  rfl
 refine pure_ (i := 8) (N := some 2) (v := ?_) (a' := ?_) #[true, true, true, true, true, true, true, true, true] rfl rfl (any_of HT_.out (by kernel_rfl)) (fun _ _ _ h => h) (Or.inl ⟨by rfl, ?_⟩) ?_ ?_
 rotate_left
 ·intro w'
  go_simp
  with_reducible rfl
 rotate_left
 ·simp only [Act.put, List.setIfInBounds_toArray, List.set_cons_zero, List.set_cons_succ, i64_w, i32_w]
  rfl
 refine done_ (done_of HT_.out (by kernel_rfl)) ?_
 try go_wp2
 go_ret
 exact ⟨_, by first | rfl | (simp [errW_none, errW_some] <;> rfl) | (simp [*, errW_none, errW_some] <;> rfl), by (with_reducible repeat (first | apply Kd.R_alloc | apply Kd.R_drewN | apply Kd.R_drew)); exact HO325.out, by repeat (first | (with_reducible first | exact HB.out | apply below_alloc | apply pw_below_drewN | apply below_drew1 | refine below_set ?_ GE320.out) | exact HB.out)⟩

end Go.Proofs.Ytigkkfhpnfjmhaa.PPredU
