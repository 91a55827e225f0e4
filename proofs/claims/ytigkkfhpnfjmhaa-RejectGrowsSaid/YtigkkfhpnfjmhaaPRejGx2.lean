/- Laid by a program of this session over the printer of the kit: contracts of functions of the given program, and rows of laws. Lean checks it. -/
import Derived.Test.YtigkkfhpnfjmhaaPRejGx0
namespace Go.Proofs.Ytigkkfhpnfjmhaa.PRejG
open Go.RowKit Go.Proofs.YtigkkfhpnfjmhaaW.PrintWords Go.Proofs.YtigkkfhpnfjmhaaW.PrintLast Go.Proofs.YtigkkfhpnfjmhaaW.PrintMore
attribute [local go_sem] max2_int min2_int max_two min_two max_three min_three max_four min_four   -- for this text's walks alone
set_option linter.unusedVariables false
set_option linter.unusedSimpArgs false

/-! ### how arguments are taken up -/
section
open Go.Proofs.Ytigkkfhpnfjmhaa.Opens
def b42 (x : S42) : Prop := (fun _ => True) x.f0 ∧ (fun x => (Lit.int .i64 x).wf = true) x.f1
theorem opens42 (n : Nat) : Upto Try.prog n 42 k42 b42 :=
  Upto.le (struct_at (n := n) (B' := b42) Try.underlying42 (by kernel_rfl) (ts := [4, 2]) (by kernel_rfl) (by kernel_rfl) (g := (fun y => ⟨y.1, y.2⟩ : _ → S42)) (fun _ => rfl) (fun _ h => by exact h) (fun m _ => (parts_cons (by kernel_rfl) ((bool_at (n := m) Try.underlying4) m (Nat.le_refl _)) (parts_one (by kernel_rfl) ((int_at (n := m) Try.underlying2) m (Nat.le_refl _)))))) (by omega)
def b44 (x : S44) : Prop := (fun x => (Lit.int .i64 x).wf = true) x.f0 ∧ (fun x => (Lit.int .i64 x).wf = true) x.f1 ∧ (fun x => (Lit.int .i64 x).wf = true) x.f2 ∧ b42 x.f3
theorem opens44 (n : Nat) : Upto Try.prog n 44 k44 b44 :=
  Upto.le (struct_at (n := n) (B' := b44) Try.underlying44 (by kernel_rfl) (ts := [3, 3, 3, 42]) (by kernel_rfl) (by kernel_rfl) (g := (fun y => ⟨y.1, y.2.1, y.2.2.1, y.2.2.2⟩ : _ → S44)) (fun _ => rfl) (fun _ h => by exact h) (fun m _ => (parts_cons (by kernel_rfl) ((int_at (n := m) Try.underlying3) m (Nat.le_refl _)) (parts_cons (by kernel_rfl) ((int_at (n := m) Try.underlying3) m (Nat.le_refl _)) (parts_cons (by kernel_rfl) ((int_at (n := m) Try.underlying3) m (Nat.le_refl _)) (parts_one (by kernel_rfl) ((opens42 m) m (Nat.le_refl _)))))))) (by omega)
def g46 (B : S46 → Prop) (x : S46) : Prop := (fun x => (Lit.int .i64 x).wf = true) x.f0 ∧ (fun x => (Lit.int .i64 x).wf = true) x.f1 ∧ (fun x => (Lit.int .i64 x).wf = true) x.f2 ∧ b44 x.f3 ∧ b44 x.f4 ∧ (SliceB 128 B) x.f5
def bn46 : Nat → S46 → Prop
  | 0 => fun _ => False
  | n + 1 => g46 (bn46 n)
def b46 (x : S46) : Prop := ∃ n, bn46 n x
theorem step46 (n : Nat) (d : Kd S46) (B : S46 → Prop) (hd : d.sz = 14) (h : Upto Try.prog n 46 d B) : Upto Try.prog (n + 1) 46 (F46 d) (g46 B) :=
  struct_at (n := n) (B' := g46 B) Try.underlying46 (by kernel_rfl) (ts := [3, 3, 3, 44, 44, 23]) (by kernel_rfl) (by kernel_rfl) (g := (fun y => ⟨y.1, y.2.1, y.2.2.1, y.2.2.2.1, y.2.2.2.2.1, y.2.2.2.2.2⟩ : _ → S46)) (fun _ => rfl) (fun _ h => by exact h) (fun m _ => (parts_cons (by kernel_rfl) ((int_at (n := m) Try.underlying3) m (by omega)) (parts_cons (by kernel_rfl) ((int_at (n := m) Try.underlying3) m (by omega)) (parts_cons (by kernel_rfl) ((int_at (n := m) Try.underlying3) m (by omega)) (parts_cons (by kernel_rfl) ((opens44 m) m (by omega)) (parts_cons (by kernel_rfl) ((opens44 m) m (by omega)) (parts_one (by kernel_rfl) ((slice_at (n := n) Try.underlying23 (by rw [hd]; kernel_rfl) (by kernel_rfl) h) m (by omega)))))))))
theorem opens46 (n : Nat) : Upto Try.prog n 46 k46 b46 := fix_at bn46 (fun _ => rfl) step46 n
def b49 (x : S49) : Prop := (fun x => (Lit.int .u64 x).wf = true) x.f0 ∧ (fun x => (Lit.int .u64 x).wf = true) x.f1
theorem opens49 (n : Nat) : Upto Try.prog n 49 k49 b49 :=
  Upto.le (array_at (n := n) (B' := b49) Try.underlying49 (by kernel_rfl) (ts := [28, 28]) rfl (g := (fun y => ⟨y.1, y.2⟩ : _ → S49)) (fun _ => rfl) (fun _ h => by exact h) (fun m _ => (parts_cons (by kernel_rfl) ((int_at (n := m) Try.underlying28) m (Nat.le_refl _)) (parts_one (by kernel_rfl) ((int_at (n := m) Try.underlying28) m (Nat.le_refl _)))))) (by omega)
end

/-! ### watersmeetref06_Size: function 47 -/
mutual
def watersmeetref06_Size.l0 : Nat → Int → Int → Int → Int → Int → Int → Int → Int → Int → Bool → Int → Int → Int → Int → Bool → Int → List (S46) → Option (Int)
 | 0, _, _, _, _, _, _, _, _, _, _, _, _, _, _, _, _, _ => none
 | k + 1, x1, x5, x6, x102000, x102001, x102002, x102003, x102004, x102005, x102006, x102007, x102008, x102009, x102010, x102011, x102012, x102013 => if x6 < (x102013.length : Int) then (if x5 < x1 then (if 0 ≤ x6 then ((watersmeetref06_Size.f k ((rd_T46 x102013 x6).f0) ((rd_T46 x102013 x6).f1) ((rd_T46 x102013 x6).f2) ((rd_T46 x102013 x6).f3.f0) ((rd_T46 x102013 x6).f3.f1) ((rd_T46 x102013 x6).f3.f2) ((rd_T46 x102013 x6).f3.f3.f0) ((rd_T46 x102013 x6).f3.f3.f1) ((rd_T46 x102013 x6).f4.f0) ((rd_T46 x102013 x6).f4.f1) ((rd_T46 x102013 x6).f4.f2) ((rd_T46 x102013 x6).f4.f3.f0) ((rd_T46 x102013 x6).f4.f3.f1) ((rd_T46 x102013 x6).f5) (wrap64 (x1 - x5))).bind fun t103 => (watersmeetref06_Size.l0 k x1 (wrap64 (x5 + t103)) (wrap64 (x6 + 1)) x102000 x102001 x102002 x102003 x102004 x102005 x102006 x102007 x102008 x102009 x102010 x102011 x102012 x102013)) else (none)) else (some x5)) else (some x5)
def watersmeetref06_Size.f : Nat → Int → Int → Int → Int → Int → Int → Bool → Int → Int → Int → Int → Bool → Int → List (S46) → Int → Option (Int)
 | 0, _, _, _, _, _, _, _, _, _, _, _, _, _, _, _ => none
 | k + 1, a0_0, a0_1, a0_2, a0_3, a0_4, a0_5, a0_6, a0_7, a0_8, a0_9, a0_10, a0_11, a0_12, l0_13, a1 => watersmeetref06_Size.l0 k a1 1 0 a0_0 a0_1 a0_2 a0_3 a0_4 a0_5 a0_6 a0_7 a0_8 a0_9 a0_10 a0_11 a0_12 l0_13
end
theorem watersmeetref06_Size.mono_l : ∀ k, (∀ y0 y1 y2 y3 y4 y5 y6 y7 y8 y9 y10 y11 y12 y13 y14, LeO (watersmeetref06_Size.f k y0 y1 y2 y3 y4 y5 y6 y7 y8 y9 y10 y11 y12 y13 y14) (watersmeetref06_Size.f (k + 1) y0 y1 y2 y3 y4 y5 y6 y7 y8 y9 y10 y11 y12 y13 y14)) ∧ (∀ y0 y1 y2 y3 y4 y5 y6 y7 y8 y9 y10 y11 y12 y13 y14 y15 y16, LeO (watersmeetref06_Size.l0 k y0 y1 y2 y3 y4 y5 y6 y7 y8 y9 y10 y11 y12 y13 y14 y15 y16) (watersmeetref06_Size.l0 (k + 1) y0 y1 y2 y3 y4 y5 y6 y7 y8 y9 y10 y11 y12 y13 y14 y15 y16))
 | 0 => ⟨fun _ _ _ _ _ _ _ _ _ _ _ _ _ _ _ r h => by simp [watersmeetref06_Size.f] at h, fun _ _ _ _ _ _ _ _ _ _ _ _ _ _ _ _ _ r h => by simp [watersmeetref06_Size.l0] at h⟩
 | k + 1 => by
  obtain ⟨ih0, ih1⟩ := watersmeetref06_Size.mono_l k; refine ⟨?_, ?_⟩
  ·intro y0 y1 y2 y3 y4 y5 y6 y7 y8 y9 y10 y11 y12 y13 y14
   unfold watersmeetref06_Size.f
   repeat' first
   | (with_reducible exact ih0 _ _ _ _ _ _ _ _ _ _ _ _ _ _ _)
   | (with_reducible exact ih1 _ _ _ _ _ _ _ _ _ _ _ _ _ _ _ _ _)
   | (with_reducible exact LeO.refl _)
   | (with_reducible exact LeO.none _)
   | (with_reducible refine LeO.ite ?_ ?_)
   | (with_reducible refine LeO.bind ?_ (fun _ => ?_))
   | exact ih0 _ _ _ _ _ _ _ _ _ _ _ _ _ _ _
   | exact ih1 _ _ _ _ _ _ _ _ _ _ _ _ _ _ _ _ _
   | exact LeO.none _
   | refine LeO.ite ?_ ?_
   | refine LeO.bind ?_ (fun _ => ?_)
  ·intro y0 y1 y2 y3 y4 y5 y6 y7 y8 y9 y10 y11 y12 y13 y14 y15 y16
   unfold watersmeetref06_Size.l0
   repeat' first
   | (with_reducible exact ih0 _ _ _ _ _ _ _ _ _ _ _ _ _ _ _)
   | (with_reducible exact ih1 _ _ _ _ _ _ _ _ _ _ _ _ _ _ _ _ _)
   | (with_reducible exact LeO.refl _)
   | (with_reducible exact LeO.none _)
   | (with_reducible refine LeO.ite ?_ ?_)
   | (with_reducible refine LeO.bind ?_ (fun _ => ?_))
   | exact ih0 _ _ _ _ _ _ _ _ _ _ _ _ _ _ _
   | exact ih1 _ _ _ _ _ _ _ _ _ _ _ _ _ _ _ _ _
   | exact LeO.none _
   | refine LeO.ite ?_ ?_
   | refine LeO.bind ?_ (fun _ => ?_)
theorem watersmeetref06_Size.mono : ∀ a0 a1 a2 a3 a4 a5 a6 a7 a8 a9 a10 a11 a12 a13 a14 k, LeO (watersmeetref06_Size.f k a0 a1 a2 a3 a4 a5 a6 a7 a8 a9 a10 a11 a12 a13 a14) (watersmeetref06_Size.f (k + 1) a0 a1 a2 a3 a4 a5 a6 a7 a8 a9 a10 a11 a12 a13 a14) := by
 intro a0 a1 a2 a3 a4 a5 a6 a7 a8 a9 a10 a11 a12 a13 a14 k; obtain ⟨ih0, ih1⟩ := watersmeetref06_Size.mono_l k; exact ih0 a0 a1 a2 a3 a4 a5 a6 a7 a8 a9 a10 a11 a12 a13 a14
set_option maxHeartbeats 8000000 in
set_option maxRecDepth 100000 in
theorem watersmeetref06_Size.calls (k : Nat) : ∀ (a0_0 : Int) (a0_1 : Int) (a0_2 : Int) (a0_3 : Int) (a0_4 : Int) (a0_5 : Int) (a0_6 : Bool) (a0_7 : Int) (a0_8 : Int) (a0_9 : Int) (a0_10 : Int) (a0_11 : Bool) (a0_12 : Int) (A0_13 : Option Addr) (c0_13 : Nat) (l0_13 : List (S46)) (a1 : Int) (r : Int) (w : World) (hr0_13 : Kd.C k46 w A0_13 l0_13.length l0_13) (hc0_13 : l0_13.length ≤ c0_13) (h : watersmeetref06_Size.f k a0_0 a0_1 a0_2 a0_3 a0_4 a0_5 a0_6 a0_7 a0_8 a0_9 a0_10 a0_11 a0_12 l0_13 a1 = some r),
  Calls Try.prog 47 #[.agg #[.int .i64 a0_0, .int .i64 a0_1, .int .i64 a0_2, .int .i64 a0_3, .int .i64 a0_4, .int .i64 a0_5, .bool a0_6, .int .i64 a0_7, .int .i64 a0_8, .int .i64 a0_9, .int .i64 a0_10, .bool a0_11, .int .i64 a0_12, .slice A0_13 l0_13.length c0_13], .int .i64 a1] w fun e w' => e = .returned (.int .i64 r) ∧ Below w.heap.size w w' := by
 induction k using Nat.strongRecOn with
 | _ k ih =>
 intro a0_0 a0_1 a0_2 a0_3 a0_4 a0_5 a0_6 a0_7 a0_8 a0_9 a0_10 a0_11 a0_12 A0_13 c0_13 l0_13 a1 r w hr0_13 hc0_13 h; cases k with
 | zero => exact absurd h (by simp [watersmeetref06_Size.f])
 | succ k =>
 simp only [watersmeetref06_Size.f] at h; have hu46 := Try.underlying46; have HR0_13 := Aside0.mk hr0_13; have HC0_13 := Aside0.mk hc0_13; clear hr0_13 hc0_13; have HB := Aside0.mk (Below.refl w.heap.size w); have H : (watersmeetref06_Size.l0 k a1 1 0 a0_0 a0_1 a0_2 a0_3 a0_4 a0_5 a0_6 a0_7 a0_8 a0_9 a0_10 a0_11 a0_12 l0_13) = some r := h; clear h; have H' := Aside0.mk H; clear H; go_enter Try.func47, Try.ntmps47
 go_wp2_with (first | ((with_reducible refine gate_dst (N := 2) rfl ?_); refine box_event ?hg (N := 2) ?hd (cs := #[.int .i64 a0_0, .int .i64 a0_1, .int .i64 a0_2, .int .i64 a0_3, .int .i64 a0_4, .int .i64 a0_5, .bool a0_6, .int .i64 a0_7, .int .i64 a0_8, .int .i64 a0_9, .int .i64 a0_10, .bool a0_11, .int .i64 a0_12, .slice A0_13 l0_13.length c0_13]) (t := 46) ?hr ?_; (case hd => rfl); (case hg => rfl); (case hr => first | (go_simp; done) | (go_simp; rfl)); intro gb101 hg w3 hbox hb; have BK101 := Aside0.mk (hbox); have GW101 := Aside0.mk ((by rw [hg]; exact (below_size (bl_ HB.out)) : w.heap.size ≤ gb101)); replace HB := bs_ HB hb; have GE101 := GW101; clear hb hbox hg))
 go_loopg [5, 6] k (fun kq v5 v6 w' => ∃ (x5_1 : Int) (x6_1 : Int), v5 = .int .i64 x5_1 ∧ v6 = .int .i64 x6_1 ∧ Aside0 (watersmeetref06_Size.l0 kq a1 x5_1 x6_1 a0_0 a0_1 a0_2 a0_3 a0_4 a0_5 a0_6 a0_7 a0_8 a0_9 a0_10 a0_11 a0_12 l0_13 = some r) ∧ Aside0 (kq ≤ k) ∧ Aside0 (w'.heap[gb101]? = some (.cells #[.int .i64 a0_0, .int .i64 a0_1, .int .i64 a0_2, .int .i64 a0_3, .int .i64 a0_4, .int .i64 a0_5, .bool a0_6, .int .i64 a0_7, .int .i64 a0_8, .int .i64 a0_9, .int .i64 a0_10, .bool a0_11, .int .i64 a0_12, (.slice A0_13 l0_13.length c0_13)] 46 (0, 0))) ∧ Aside0 (Below w.heap.size w w'))
 case atStart => exact ⟨(1), (0), (by first | rfl | (simp; done) | (simp [*]; done) | (simp; decide)), (by first | rfl | (simp; done) | (simp [*]; done) | (simp; decide)), H', ⟨Nat.le_refl _⟩, ⟨bk_ BK101.out⟩, ⟨bl1_ HB.out GE101.out⟩⟩
 case round =>
  clear H'; try clear p2
  obtain ⟨x5_1, x6_1, rfl, rfl, HA, HK1, BK101, HB⟩ := hrel; cases gk with
  | zero => exact absurd HA.out (by simp [watersmeetref06_Size.l0])
  | succ k1 =>
   have H := HA.out; clear HA; simp only [watersmeetref06_Size.l0] at H; by_cases c4 : x6_1 < (l0_13.length : Int)
   ·rw [if_pos c4] at H
    have c4b0 : decide (x6_1 < (l0_13.length : Int)) = true := decide_eq_true c4; clear c4; by_cases c5 : x5_1 < a1
    ·rw [if_pos c5] at H
     have c5b0 : decide (x5_1 < a1) = true := decide_eq_true c5; clear c5; by_cases c6 : 0 ≤ x6_1
     ·rw [if_pos c6] at H
      have c6b0 : decide (0 ≤ x6_1) = true := decide_eq_true c6; clear c6; replace H := Option.bind_eq_some_iff.mp H; obtain ⟨t103, A70, H⟩ := H; replace H : (watersmeetref06_Size.l0 k1 a1 (wrap64 (x5_1 + t103)) (wrap64 (x6_1 + 1)) a0_0 a0_1 a0_2 a0_3 a0_4 a0_5 a0_6 a0_7 a0_8 a0_9 a0_10 a0_11 a0_12 l0_13) = some r := H; have A7 := Aside0.mk A70; clear A70; have H' := Aside0.mk H; clear H; have hcz8 := blk_cell BK101.out; have hfz8 := blk_frozen BK101.out; have p102 : 0 ≤ (x6_1 : Int) := of_decide_eq_true (by first | (with_reducible assumption) | assumption); have q102 : x6_1 < (l0_13.length : Int) := of_decide_eq_true (by first | (with_reducible assumption) | assumption); obtain ⟨ad102, A102_13, c102_13, e102, hx102_0, hx102_1, hx102_2, hx102_3, hx102_4, hx102_5, hx102_6, hx102_7, hx102_8, hx102_9, hx102_10, hx102_11, hx102_12, hx102_13, hl102_13, hi102_13⟩ := at_T46 HR0_13.out x6_1 p102 q102; cases e102; replace hx102_0 := hc_ HB.out hx102_0; replace hx102_1 := hc_ HB.out hx102_1; replace hx102_2 := hc_ HB.out hx102_2; replace hx102_3 := hc_ HB.out hx102_3; replace hx102_4 := hc_ HB.out hx102_4; replace hx102_5 := hc_ HB.out hx102_5; replace hx102_6 := hc_ HB.out hx102_6; replace hx102_7 := hc_ HB.out hx102_7; replace hx102_8 := hc_ HB.out hx102_8; replace hx102_9 := hc_ HB.out hx102_9; replace hx102_10 := hc_ HB.out hx102_10; replace hx102_11 := hc_ HB.out hx102_11; replace hx102_12 := hc_ HB.out hx102_12; replace hx102_13 := hc_ HB.out hx102_13; have HR102_13 := Aside0.mk hi102_13; have HC102_13 := Aside0.mk hl102_13; clear hi102_13 hl102_13; replace p102 := eq_true p102; replace q102 := eq_true q102; go_wp2_with (first | ((with_reducible refine gate_callee (f := 47) rfl ?_); refine goesL_ (some 28) rfl rfl Try.func47 (by kernel_rfl) rfl #[.agg #[.int .i64 ((rd_T46 l0_13 x6_1).f0), .int .i64 ((rd_T46 l0_13 x6_1).f1), .int .i64 ((rd_T46 l0_13 x6_1).f2), .int .i64 ((rd_T46 l0_13 x6_1).f3.f0), .int .i64 ((rd_T46 l0_13 x6_1).f3.f1), .int .i64 ((rd_T46 l0_13 x6_1).f3.f2), .bool ((rd_T46 l0_13 x6_1).f3.f3.f0), .int .i64 ((rd_T46 l0_13 x6_1).f3.f3.f1), .int .i64 ((rd_T46 l0_13 x6_1).f4.f0), .int .i64 ((rd_T46 l0_13 x6_1).f4.f1), .int .i64 ((rd_T46 l0_13 x6_1).f4.f2), .bool ((rd_T46 l0_13 x6_1).f4.f3.f0), .int .i64 ((rd_T46 l0_13 x6_1).f4.f3.f1), .slice A102_13 ((rd_T46 l0_13 x6_1).f5).length c102_13], .int .i64 (wrap64 (a1 - x5_1))] rfl (by (try simp only [List.map_toArray, List.map_cons, List.map_nil]); first | done | rfl | (simp only [List.length_drop, List.length_take]; rfl)) ?_; (with_reducible refine (ih k1 (by have := HK1.out; omega) ((rd_T46 l0_13 x6_1).f0) ((rd_T46 l0_13 x6_1).f1) ((rd_T46 l0_13 x6_1).f2) ((rd_T46 l0_13 x6_1).f3.f0) ((rd_T46 l0_13 x6_1).f3.f1) ((rd_T46 l0_13 x6_1).f3.f2) ((rd_T46 l0_13 x6_1).f3.f3.f0) ((rd_T46 l0_13 x6_1).f3.f3.f1) ((rd_T46 l0_13 x6_1).f4.f0) ((rd_T46 l0_13 x6_1).f4.f1) ((rd_T46 l0_13 x6_1).f4.f2) ((rd_T46 l0_13 x6_1).f4.f3.f0) ((rd_T46 l0_13 x6_1).f4.f3.f1) _ _ ((rd_T46 l0_13 x6_1).f5) (wrap64 (a1 - x5_1)) t103 _ ?side1 ?side2 A7.out).mono ?_); (case side1 => exact cd_ (Kd.C_below HR102_13.out HB.out)); (case side2 => exact HC102_13.out); rintro e w9 ⟨rfl, hb⟩; refine ⟨_, rfl, ?_⟩; replace BK101 := bb_ BK101 hb; replace HB := bs1_ HB GE101 hb; (try clear hb)))
      go_roundg k1
      case measure => have := HK1.out; omega
      case rel => exact ⟨(wrap64 (x5_1 + t103)), (wrap64 (x6_1 + 1)), (by first | rfl | (simp; done) | (simp [*]; done) | (simp; decide)), (by first | rfl | (simp; done) | (simp [*]; done) | (simp; decide)), H', ⟨by have := HK1.out; omega⟩, ⟨bk_ BK101.out⟩, ⟨bl1_ HB.out GE101.out⟩⟩
     ·rw [if_neg c6] at H
      exact absurd H (by simp)
    ·rw [if_neg c5] at H
     have c5b0 : decide (x5_1 < a1) = false := decide_eq_false c5; clear c5; obtain rfl := Option.some.inj H; have hcz10 := blk_cell BK101.out; have hfz10 := blk_frozen BK101.out; go_wp2; go_ret
     exact ⟨rr_, bl1_ HB.out GE101.out⟩
   ·rw [if_neg c4] at H
    have c4b0 : decide (x6_1 < (l0_13.length : Int)) = false := decide_eq_false c4; clear c4; obtain rfl := Option.some.inj H; have hcz11 := blk_cell BK101.out; have hfz11 := blk_frozen BK101.out; go_wp2; go_ret
    exact ⟨rr_, bl1_ HB.out GE101.out⟩

/-! ### watersmeetlaw07_few: function 24 -/
def watersmeetlaw07_few.l0 : Nat → List (S46) → Int → Int → Option (Bool)
 | 0, _, _, _ => none
 | k + 1, x0, x3, x4 => if x4 < (x0.length : Int) then (if x4 < 50 then (if 0 ≤ x4 then ((watersmeetref06_Size.f k ((rd_T46 x0 x4).f0) ((rd_T46 x0 x4).f1) ((rd_T46 x0 x4).f2) ((rd_T46 x0 x4).f3.f0) ((rd_T46 x0 x4).f3.f1) ((rd_T46 x0 x4).f3.f2) ((rd_T46 x0 x4).f3.f3.f0) ((rd_T46 x0 x4).f3.f3.f1) ((rd_T46 x0 x4).f4.f0) ((rd_T46 x0 x4).f4.f1) ((rd_T46 x0 x4).f4.f2) ((rd_T46 x0 x4).f4.f3.f0) ((rd_T46 x0 x4).f4.f3.f1) ((rd_T46 x0 x4).f5) 200).bind fun t105 => (watersmeetlaw07_few.l0 k x0 (wrap64 (x3 + t105)) (wrap64 (x4 + 1)))) else (none)) else (if (x0.length : Int) ≤ 20 then (some (decide (x3 ≤ 100))) else (some false))) else (if (x0.length : Int) ≤ 20 then (some (decide (x3 ≤ 100))) else (some false))
def watersmeetlaw07_few.f (k : Nat) (l0 : List (S46)) : Option (Bool) := watersmeetlaw07_few.l0 k l0 0 0
theorem watersmeetlaw07_few.mono_l : ∀ k, (∀ y0 y1 y2, LeO (watersmeetlaw07_few.l0 k y0 y1 y2) (watersmeetlaw07_few.l0 (k + 1) y0 y1 y2))
 | 0 => fun _ _ _ r h => by simp [watersmeetlaw07_few.l0] at h
 | k + 1 => by
  have ih0 := watersmeetlaw07_few.mono_l k
  ·intro y0 y1 y2
   unfold watersmeetlaw07_few.l0
   repeat' first
   | (with_reducible exact ih0 _ _ _)
   | (with_reducible exact watersmeetref06_Size.mono _ _ _ _ _ _ _ _ _ _ _ _ _ _ _ _)
   | (with_reducible exact LeO.refl _)
   | (with_reducible exact LeO.none _)
   | (with_reducible refine LeO.ite ?_ ?_)
   | (with_reducible refine LeO.bind ?_ (fun _ => ?_))
   | exact ih0 _ _ _
   | exact watersmeetref06_Size.mono _ _ _ _ _ _ _ _ _ _ _ _ _ _ _ _
   | exact LeO.none _
   | refine LeO.ite ?_ ?_
   | refine LeO.bind ?_ (fun _ => ?_)
theorem watersmeetlaw07_few.mono : ∀ a0 k, LeO (watersmeetlaw07_few.f k a0) (watersmeetlaw07_few.f (k + 1) a0) := by
 intro a0 k; have ih0 := watersmeetlaw07_few.mono_l k; unfold watersmeetlaw07_few.f
 repeat' first
   | (with_reducible exact ih0 _ _ _)
   | (with_reducible exact watersmeetref06_Size.mono _ _ _ _ _ _ _ _ _ _ _ _ _ _ _ _)
   | (with_reducible exact LeO.refl _)
   | (with_reducible exact LeO.none _)
   | (with_reducible refine LeO.ite ?_ ?_)
   | (with_reducible refine LeO.bind ?_ (fun _ => ?_))
   | exact ih0 _ _ _
   | exact watersmeetref06_Size.mono _ _ _ _ _ _ _ _ _ _ _ _ _ _ _ _
   | exact LeO.none _
   | refine LeO.ite ?_ ?_
   | refine LeO.bind ?_ (fun _ => ?_)
set_option maxHeartbeats 8000000 in
set_option maxRecDepth 100000 in
theorem watersmeetlaw07_few.calls (k : Nat) (A0 : Option Addr) (c0 : Nat) (l0 : List (S46)) (r : Bool) (w : World) (hr0 : Kd.C k46 w A0 l0.length l0) (hc0 : l0.length ≤ c0) (h : watersmeetlaw07_few.f k l0 = some r) :
  Calls Try.prog 24 #[.slice A0 l0.length c0] w fun e w' => e = .returned (.bool r) ∧ Below w.heap.size w w' := by
 have hu46 := Try.underlying46; have HR0 := Aside0.mk hr0; have HC0 := Aside0.mk hc0; clear hr0 hc0; have HB := Aside0.mk (Below.refl w.heap.size w); have H : (watersmeetlaw07_few.l0 k l0 0 0) = some r := h; clear h; have H' := Aside0.mk H; clear H; go_enter Try.func24, Try.ntmps24
 go_wp2
 go_loopg [3, 4] k (fun kq v3 v4 w' => ∃ (x3_1 : Int) (x4_1 : Int), v3 = .int .i64 x3_1 ∧ v4 = .int .i64 x4_1 ∧ Aside0 (watersmeetlaw07_few.l0 kq l0 x3_1 x4_1 = some r) ∧ Aside0 (kq ≤ k) ∧ Aside0 (Below w.heap.size w w'))
 case atStart => exact ⟨(0), (0), (by first | rfl | (simp; done) | (simp [*]; done) | (simp; decide)), (by first | rfl | (simp; done) | (simp [*]; done) | (simp; decide)), H', ⟨Nat.le_refl _⟩, ⟨bl_ HB.out⟩⟩
 case round =>
  clear H'; obtain ⟨x3_1, x4_1, rfl, rfl, HA, HK1, HB⟩ := hrel; cases gk with
  | zero => exact absurd HA.out (by simp [watersmeetlaw07_few.l0])
  | succ k1 =>
   have H := HA.out; clear HA; simp only [watersmeetlaw07_few.l0] at H; by_cases c2 : x4_1 < (l0.length : Int)
   ·rw [if_pos c2] at H
    have c2b0 : decide (x4_1 < (l0.length : Int)) = true := decide_eq_true c2; clear c2; by_cases c3 : x4_1 < 50
    ·rw [if_pos c3] at H
     have c3b0 : decide (x4_1 < 50) = true := decide_eq_true c3; clear c3; by_cases c4 : 0 ≤ x4_1
     ·rw [if_pos c4] at H
      have c4b0 : decide (0 ≤ x4_1) = true := decide_eq_true c4; clear c4; replace H := Option.bind_eq_some_iff.mp H; obtain ⟨t105, A50, H⟩ := H; replace H : (watersmeetlaw07_few.l0 k1 l0 (wrap64 (x3_1 + t105)) (wrap64 (x4_1 + 1))) = some r := H; have A5 := Aside0.mk A50; clear A50; have H' := Aside0.mk H; clear H; have p104 : 0 ≤ (x4_1 : Int) := of_decide_eq_true (by first | (with_reducible assumption) | assumption); have q104 : x4_1 < (l0.length : Int) := of_decide_eq_true (by first | (with_reducible assumption) | assumption); obtain ⟨ad104, A104_13, c104_13, e104, hx104_0, hx104_1, hx104_2, hx104_3, hx104_4, hx104_5, hx104_6, hx104_7, hx104_8, hx104_9, hx104_10, hx104_11, hx104_12, hx104_13, hl104_13, hi104_13⟩ := at_T46 HR0.out x4_1 p104 q104; cases e104; replace hx104_0 := hc_ HB.out hx104_0; replace hx104_1 := hc_ HB.out hx104_1; replace hx104_2 := hc_ HB.out hx104_2; replace hx104_3 := hc_ HB.out hx104_3; replace hx104_4 := hc_ HB.out hx104_4; replace hx104_5 := hc_ HB.out hx104_5; replace hx104_6 := hc_ HB.out hx104_6; replace hx104_7 := hc_ HB.out hx104_7; replace hx104_8 := hc_ HB.out hx104_8; replace hx104_9 := hc_ HB.out hx104_9; replace hx104_10 := hc_ HB.out hx104_10; replace hx104_11 := hc_ HB.out hx104_11; replace hx104_12 := hc_ HB.out hx104_12; replace hx104_13 := hc_ HB.out hx104_13; have HR104_13 := Aside0.mk hi104_13; have HC104_13 := Aside0.mk hl104_13; clear hi104_13 hl104_13; replace p104 := eq_true p104; replace q104 := eq_true q104; go_wp2_with (first | ((with_reducible refine gate_callee (f := 47) rfl ?_); refine goesL_ (some 20) rfl rfl Try.func47 (by kernel_rfl) rfl #[.agg #[.int .i64 ((rd_T46 l0 x4_1).f0), .int .i64 ((rd_T46 l0 x4_1).f1), .int .i64 ((rd_T46 l0 x4_1).f2), .int .i64 ((rd_T46 l0 x4_1).f3.f0), .int .i64 ((rd_T46 l0 x4_1).f3.f1), .int .i64 ((rd_T46 l0 x4_1).f3.f2), .bool ((rd_T46 l0 x4_1).f3.f3.f0), .int .i64 ((rd_T46 l0 x4_1).f3.f3.f1), .int .i64 ((rd_T46 l0 x4_1).f4.f0), .int .i64 ((rd_T46 l0 x4_1).f4.f1), .int .i64 ((rd_T46 l0 x4_1).f4.f2), .bool ((rd_T46 l0 x4_1).f4.f3.f0), .int .i64 ((rd_T46 l0 x4_1).f4.f3.f1), .slice A104_13 ((rd_T46 l0 x4_1).f5).length c104_13], .int .i64 200] rfl (by (try simp only [List.map_toArray, List.map_cons, List.map_nil]); first | done | rfl | (simp only [List.length_drop, List.length_take]; rfl)) ?_; (with_reducible refine (watersmeetref06_Size.calls k1 ((rd_T46 l0 x4_1).f0) ((rd_T46 l0 x4_1).f1) ((rd_T46 l0 x4_1).f2) ((rd_T46 l0 x4_1).f3.f0) ((rd_T46 l0 x4_1).f3.f1) ((rd_T46 l0 x4_1).f3.f2) ((rd_T46 l0 x4_1).f3.f3.f0) ((rd_T46 l0 x4_1).f3.f3.f1) ((rd_T46 l0 x4_1).f4.f0) ((rd_T46 l0 x4_1).f4.f1) ((rd_T46 l0 x4_1).f4.f2) ((rd_T46 l0 x4_1).f4.f3.f0) ((rd_T46 l0 x4_1).f4.f3.f1) _ _ ((rd_T46 l0 x4_1).f5) 200 t105 _ ?side1 ?side2 A5.out).mono ?_); (case side1 => exact cd_ (Kd.C_below HR104_13.out HB.out)); (case side2 => exact HC104_13.out); rintro e w6 ⟨rfl, hb⟩; refine ⟨_, rfl, ?_⟩; replace HB := bs_ HB hb; (try clear hb)))
      go_roundg k1
      case measure => have := HK1.out; omega
      case rel => exact ⟨(wrap64 (x3_1 + t105)), (wrap64 (x4_1 + 1)), (by first | rfl | (simp; done) | (simp [*]; done) | (simp; decide)), (by first | rfl | (simp; done) | (simp [*]; done) | (simp; decide)), H', ⟨by have := HK1.out; omega⟩, ⟨bl_ HB.out⟩⟩
     ·rw [if_neg c4] at H
      exact absurd H (by simp)
    ·rw [if_neg c3] at H
     have c3b0 : decide (x4_1 < 50) = false := decide_eq_false c3; clear c3; by_cases c7 : (l0.length : Int) ≤ 20
     ·rw [if_pos c7] at H
      have c7b0 : decide ((l0.length : Int) ≤ 20) = true := decide_eq_true c7; have c7b1 : decide (l0.length ≤ 20) = true := decide_eq_true (by omega); clear c7; obtain rfl := Option.some.inj H; go_wp2; go_ret
      exact ⟨rr_, bl_ HB.out⟩
     ·rw [if_neg c7] at H
      have c7b0 : decide ((l0.length : Int) ≤ 20) = false := decide_eq_false c7; have c7b1 : decide (l0.length ≤ 20) = false := decide_eq_false (by omega); clear c7; obtain rfl := Option.some.inj H; go_wp2; go_ret
      exact ⟨rr_, bl_ HB.out⟩
   ·rw [if_neg c2] at H
    have c2b0 : decide (x4_1 < (l0.length : Int)) = false := decide_eq_false c2; clear c2; by_cases c8 : (l0.length : Int) ≤ 20
    ·rw [if_pos c8] at H
     have c8b0 : decide ((l0.length : Int) ≤ 20) = true := decide_eq_true c8; have c8b1 : decide (l0.length ≤ 20) = true := decide_eq_true (by omega); clear c8; obtain rfl := Option.some.inj H; go_wp2; go_ret
     exact ⟨rr_, bl_ HB.out⟩
    ·rw [if_neg c8] at H
     have c8b0 : decide ((l0.length : Int) ≤ 20) = false := decide_eq_false c8; have c8b1 : decide (l0.length ≤ 20) = false := decide_eq_false (by omega); clear c8; obtain rfl := Option.some.inj H; go_wp2; go_ret
     exact ⟨rr_, bl_ HB.out⟩

-- NOT PRINTED: function 111 (slices_IndexFunc_int_int)

-- NOT PRINTED: function 106 (slices_ContainsFunc_int_int)

/-! ### logic_Right: function 100 -/
def logic_Right.f (a0 : Int) : Option (Bool) := if a0 ≥ 0 then (some (decide (a0 ≤ 2))) else (some false)
set_option maxHeartbeats 8000000 in
set_option maxRecDepth 100000 in
theorem logic_Right.calls (a0 : Int) (r : Bool) (w : World) (h : logic_Right.f a0 = some r) :
    Calls Try.prog 100 #[.int .i64 a0] w fun e w' => e = .returned (.bool r) ∧ Drawn0 w w' := by
  have H : (if a0 ≥ 0 then (some (decide (a0 ≤ 2))) else (some false)) = some r := h
  clear h
  by_cases c2 : a0 ≥ 0
  · rw [if_pos c2] at H
    have c2b0 : decide (0 ≤ a0) = true := decide_eq_true c2
    clear c2
    obtain rfl := Option.some.inj H
    go_enter Try.func100, Try.ntmps100
    go_wp2
    go_ret
    exact ⟨by first | rfl | (simp; done) | (simp [*]; done), by repeat (first | exact Drawn0.refl _ | apply Drawn0.step)⟩
  · rw [if_neg c2] at H
    have c2b0 : decide (0 ≤ a0) = false := decide_eq_false c2
    clear c2
    obtain rfl := Option.some.inj H
    go_enter Try.func100, Try.ntmps100
    go_wp2
    go_ret
    exact ⟨by first | rfl | (simp; done) | (simp [*]; done), by repeat (first | exact Drawn0.refl _ | apply Drawn0.step)⟩

/-! ### logic_of: function 98 -/
def logic_of.f (a0 : Int) : Option (Int) := (logic_Right.f a0).bind fun t106 => (if t106 = true then (some a0) else (some 1))
set_option maxHeartbeats 8000000 in
set_option maxRecDepth 100000 in
theorem logic_of.calls (a0 : Int) (r : Int) (w : World) (h : logic_of.f a0 = some r) :
    Calls Try.prog 98 #[.int .i64 a0] w fun e w' => e = .returned (.int .i64 r) ∧ Drawn0 w w' := by
  have H : ((logic_Right.f a0).bind fun t106 => (if t106 = true then (some a0) else (some 1))) = some r := h
  clear h
  replace H := Option.bind_eq_some_iff.mp H
  obtain ⟨t106, A20, H⟩ := H
  replace H : (if t106 = true then (some a0) else (some 1)) = some r := H
  have A2 := Aside0.mk A20
  clear A20
  by_cases c3 : t106 = true
  · subst c3
    have H1 : (some a0) = some r := by rw [if_pos rfl] at H; exact H
    clear H
    have H := H1
    clear H1
    obtain rfl := Option.some.inj H
    go_enter Try.func98, Try.ntmps98
    go_wp2_with (first | ((with_reducible refine gate_callee (f := 100) rfl ?_); refine goesL_ (some 4) rfl rfl Try.func100 (by kernel_rfl) rfl #[.int .i64 a0] rfl (by (try simp only [List.map_toArray, List.map_cons, List.map_nil]); first | done | rfl | (simp only [List.length_drop, List.length_take]; rfl)) ?_; (with_reducible refine (logic_Right.calls a0 true _ A2.out).mono ?_); rintro e w' ⟨rfl, ⟨nd, rfl⟩⟩; refine ⟨_, rfl, ?_⟩))
    go_ret
    exact ⟨by first | rfl | (simp; done) | (simp [*]; done), by repeat (first | exact Drawn0.refl _ | apply Drawn0.step)⟩
  · replace c3 := Bool.eq_false_iff.mpr c3
    subst c3
    have H1 : (some 1) = some r := by rw [if_neg (show ¬ (false = true) by decide)] at H; exact H
    clear H
    have H := H1
    clear H1
    obtain rfl := Option.some.inj H
    go_enter Try.func98, Try.ntmps98
    go_wp2_with (first | ((with_reducible refine gate_callee (f := 100) rfl ?_); refine goesL_ (some 4) rfl rfl Try.func100 (by kernel_rfl) rfl #[.int .i64 a0] rfl (by (try simp only [List.map_toArray, List.map_cons, List.map_nil]); first | done | rfl | (simp only [List.length_drop, List.length_take]; rfl)) ?_; (with_reducible refine (logic_Right.calls a0 false _ A2.out).mono ?_); rintro e w' ⟨rfl, ⟨nd, rfl⟩⟩; refine ⟨_, rfl, ?_⟩))
    go_ret
    exact ⟨by first | rfl | (simp; done) | (simp [*]; done), by repeat (first | exact Drawn0.refl _ | apply Drawn0.step)⟩

/-! ### logic_first_1_1: function 107 -/
def logic_first_1_1.f (a0 : Int) (a1_0 : Int) : Option (Bool) := (logic_of.f a0).bind fun t107 => (some (t107 == a1_0))
set_option maxHeartbeats 8000000 in
set_option maxRecDepth 100000 in
theorem logic_first_1_1.calls (a0 : Int) (g1 : Nat) (a1_0 : Int) (r : Bool) (w : World) (hb1 : w.heap[g1]? = some (.cells #[.int .i64 a1_0] 3 (0, 0))) (h : logic_first_1_1.f a0 a1_0 = some r) :
    Calls Try.prog 107 #[.int .i64 a0, .pointer (some ⟨g1, 0, none⟩)] w fun e w' => e = .returned (.bool r) ∧ Below w.heap.size w w' := by
  have BK1 := Aside0.mk hb1
  clear hb1
  have HB := Aside0.mk (Below.refl w.heap.size w)
  have H : ((logic_of.f a0).bind fun t107 => (some (t107 == a1_0))) = some r := h
  clear h
  replace H := Option.bind_eq_some_iff.mp H
  obtain ⟨t107, A30, H⟩ := H
  replace H : (some (t107 == a1_0)) = some r := H
  have A3 := Aside0.mk A30
  clear A30
  obtain rfl := Option.some.inj H
  go_enter Try.func107, Try.ntmps107
  go_wp2_with (first | (go_at_call 98; (with_reducible refine (logic_of.calls a0 t107 _ A3.out).mono ?_); rintro e w' ⟨rfl, ⟨nd, rfl⟩⟩; (try first | exact ⟨rfl, _, World.drewN_drewN _ _ _⟩ | exact ⟨rfl, _, Eq.trans (World.drewN_drewN _ _ _) (congrArg (World.drewN _) (Nat.add_assoc _ _ _))⟩); have hcz4_0 : w.cell? ⟨g1, 0, none⟩ = some (.int .i64 a1_0) := (blk_cell BK1.out 0).trans rfl; have hfz4_0 := blk_frozen BK1.out 0))
  repeat (go_quiet (first | (go_at_call 98; (with_reducible refine (logic_of.calls a0 t107 _ A3.out).mono ?_); rintro e w' ⟨rfl, ⟨nd, rfl⟩⟩; (try first | exact ⟨rfl, _, World.drewN_drewN _ _ _⟩ | exact ⟨rfl, _, Eq.trans (World.drewN_drewN _ _ _) (congrArg (World.drewN _) (Nat.add_assoc _ _ _))⟩); have hcz4_0 : w.cell? ⟨g1, 0, none⟩ = some (.int .i64 a1_0) := (blk_cell BK1.out 0).trans rfl; have hfz4_0 := blk_frozen BK1.out 0)); try go_wp2_with (first | (go_at_call 98; (with_reducible refine (logic_of.calls a0 t107 _ A3.out).mono ?_); rintro e w' ⟨rfl, ⟨nd, rfl⟩⟩; (try first | exact ⟨rfl, _, World.drewN_drewN _ _ _⟩ | exact ⟨rfl, _, Eq.trans (World.drewN_drewN _ _ _) (congrArg (World.drewN _) (Nat.add_assoc _ _ _))⟩); have hcz4_0 : w.cell? ⟨g1, 0, none⟩ = some (.int .i64 a1_0) := (blk_cell BK1.out 0).trans rfl; have hfz4_0 := blk_frozen BK1.out 0)))
  go_ret
  exact ⟨by first | rfl | (simp [errW_none, errW_some] <;> rfl) | (simp [*, errW_none, errW_some] <;> rfl), by repeat (first | (with_reducible first | exact HB.out | apply below_alloc | apply pw_below_drewN | apply below_drew1 | refine below_set ?_ GE1.out) | exact HB.out)⟩

/-! ### slices_IndexFunc_int_int_at_logic_first_1_1: function 111 -/
def slices_IndexFunc_int_int_at_logic_first_1_1.l0 : Nat → List Int → Int → Int → Int → Option (Int)
 | 0, _, _, _, _ => none
 | k + 1, x0, x7, x8, x3000 => if x8 < x7 then (if 0 ≤ x8 then (if x8 < (x0.length : Int) then ((logic_first_1_1.f (rd x0 x8) x3000).bind fun t110 => (if t110 = true then (some x8) else (slices_IndexFunc_int_int_at_logic_first_1_1.l0 k x0 x7 (wrap64 (x8 + 1)) x3000))) else (none)) else (none)) else (some (-1))
def slices_IndexFunc_int_int_at_logic_first_1_1.f (k : Nat) (l0 : List Int)  (a2_0 : Int) : Option (Int) := slices_IndexFunc_int_int_at_logic_first_1_1.l0 k l0 (l0.length : Int) 0 a2_0
theorem slices_IndexFunc_int_int_at_logic_first_1_1.mono_l : ∀ k, (∀ y0 y1 y2 y3, LeO (slices_IndexFunc_int_int_at_logic_first_1_1.l0 k y0 y1 y2 y3) (slices_IndexFunc_int_int_at_logic_first_1_1.l0 (k + 1) y0 y1 y2 y3))
 | 0 => fun _ _ _ _ r h => by simp [slices_IndexFunc_int_int_at_logic_first_1_1.l0] at h
 | k + 1 => by
  have ih0 := slices_IndexFunc_int_int_at_logic_first_1_1.mono_l k
  ·intro y0 y1 y2 y3
   unfold slices_IndexFunc_int_int_at_logic_first_1_1.l0
   repeat' first
   | (with_reducible exact ih0 _ _ _ _)
   | (with_reducible exact LeO.refl _)
   | (with_reducible exact LeO.none _)
   | (with_reducible refine LeO.ite ?_ ?_)
   | (with_reducible refine LeO.bind ?_ (fun _ => ?_))
   | exact ih0 _ _ _ _
   | exact LeO.none _
   | refine LeO.ite ?_ ?_
   | refine LeO.bind ?_ (fun _ => ?_)
theorem slices_IndexFunc_int_int_at_logic_first_1_1.mono : ∀ a0 a1 k, LeO (slices_IndexFunc_int_int_at_logic_first_1_1.f k a0 a1) (slices_IndexFunc_int_int_at_logic_first_1_1.f (k + 1) a0 a1) := by
 intro a0 a1 k; have ih0 := slices_IndexFunc_int_int_at_logic_first_1_1.mono_l k; unfold slices_IndexFunc_int_int_at_logic_first_1_1.f
 repeat' first
   | (with_reducible exact ih0 _ _ _ _)
   | (with_reducible exact LeO.refl _)
   | (with_reducible exact LeO.none _)
   | (with_reducible refine LeO.ite ?_ ?_)
   | (with_reducible refine LeO.bind ?_ (fun _ => ?_))
   | exact ih0 _ _ _ _
   | exact LeO.none _
   | refine LeO.ite ?_ ?_
   | refine LeO.bind ?_ (fun _ => ?_)
set_option maxHeartbeats 8000000 in
set_option maxRecDepth 100000 in
theorem slices_IndexFunc_int_int_at_logic_first_1_1.calls (k : Nat) (A0 : Option Addr) (c0 : Nat) (l0 : List Int)  (g2 : Nat) (a2_0 : Int) (r : Int) (w : World) (hr0 : Kd.C (Kd.int .i64) w A0 l0.length l0) (hc0 : l0.length ≤ c0) (hb2 : w.heap[g2]? = some (.cells #[.int .i64 a2_0] 3 (0, 0))) (h : slices_IndexFunc_int_int_at_logic_first_1_1.f k l0 a2_0 = some r) :
  Calls Try.prog 111 #[.slice A0 l0.length c0, .func (.func 107) #[] #[.pointer (some ⟨g2, 0, none⟩)]] w fun e w' => e = .returned (.int .i64 r) ∧ Below w.heap.size w w' := by
 have HR0 := Aside0.mk hr0; have HC0 := Aside0.mk hc0; clear hr0 hc0; have BK2 := Aside0.mk hb2; clear hb2; have HB := Aside0.mk (Below.refl w.heap.size w); have H : (slices_IndexFunc_int_int_at_logic_first_1_1.l0 k l0 (l0.length : Int) 0 a2_0) = some r := h; clear h; have H' := Aside0.mk H; clear H; go_enter Try.func111, Try.ntmps111
 go_wp2
 go_loopg [8] k (fun kq v8 w' => ∃ (x8_1 : Int), v8 = .int .i64 x8_1 ∧ Aside0 (slices_IndexFunc_int_int_at_logic_first_1_1.l0 kq l0 (l0.length : Int) x8_1 a2_0 = some r) ∧ Aside0 (kq ≤ k) ∧ Aside0 (w'.heap[g2]? = some (.cells #[.int .i64 a2_0] 3 (0, 0))) ∧ Aside0 (Below w.heap.size w w'))
 case atStart => exact ⟨(0), (by first | rfl | (simp; done) | (simp [*]; done) | (simp; decide)), H', ⟨Nat.le_refl _⟩, ⟨bk_ BK2.out⟩, ⟨bl_ HB.out⟩⟩
 case round =>
  clear H'; try clear c1
  try clear p2
  obtain ⟨x8_1, rfl, HA, HK1, BK2, HB⟩ := hrel; cases gk with
  | zero => exact absurd HA.out (by simp [slices_IndexFunc_int_int_at_logic_first_1_1.l0])
  | succ k1 =>
   have H := HA.out; clear HA; simp only [slices_IndexFunc_int_int_at_logic_first_1_1.l0] at H; by_cases c4 : x8_1 < (l0.length : Int)
   ·rw [if_pos c4] at H
    have c4b0 : decide (x8_1 < (l0.length : Int)) = true := decide_eq_true c4; clear c4; by_cases c5 : 0 ≤ x8_1
    ·rw [if_pos c5] at H
     have c5b0 : decide (0 ≤ x8_1) = true := decide_eq_true c5; clear c5; by_cases c6 : x8_1 < (l0.length : Int)
     ·rw [if_pos c6] at H
      have c6b0 : decide (x8_1 < (l0.length : Int)) = true := decide_eq_true c6; clear c6; replace H := Option.bind_eq_some_iff.mp H; obtain ⟨t110, A70, H⟩ := H; replace H : (if t110 = true then (some x8_1) else (slices_IndexFunc_int_int_at_logic_first_1_1.l0 k1 l0 (l0.length : Int) (wrap64 (x8_1 + 1)) a2_0)) = some r := H; have A7 := Aside0.mk A70; clear A70; by_cases c8 : t110 = true
      ·subst c8
       have H1 : (some x8_1) = some r := by rw [if_pos rfl] at H; exact H
       clear H; have H := H1; clear H1; obtain rfl := Option.some.inj H; have p109 : 0 ≤ (x8_1 : Int) := of_decide_eq_true (by first | (with_reducible assumption) | assumption); have q109 : x8_1 < (l0.length : Int) := of_decide_eq_true (by first | (with_reducible assumption) | assumption); obtain ⟨ad109, e109, hx109_0⟩ := Kd.at_int HR0.out x8_1 p109 q109; cases e109; replace hx109_0 := hc_ HB.out hx109_0; replace p109 := eq_true p109; replace q109 := eq_true q109; go_wp2_with (first | ((with_reducible refine gate_calleev (t := 11) rfl ?_); refine goesV_ (caps := #[.pointer (some ⟨g2, 0, none⟩)]) (some 16) rfl rfl Try.func107 (by kernel_rfl) rfl #[.int .i64 (rd l0 x8_1), .pointer (some ⟨g2, 0, none⟩)] rfl rfl (by (try simp only [List.map_toArray, List.map_cons, List.map_nil]); first | done | rfl | (simp only [List.length_drop, List.length_take]; rfl)) ?_; (with_reducible refine (logic_first_1_1.calls (rd l0 x8_1) g2 a2_0 true _ ?side1 A7.out).mono ?_); (case side1 => exact bk_ BK2.out); rintro e w9 ⟨rfl, hb⟩; refine ⟨_, rfl, ?_⟩; replace BK2 := bb_ BK2 hb; replace HB := bs_ HB hb; (try clear hb))); go_ret
       exact ⟨rr_, bl_ HB.out⟩
      ·replace c8 := Bool.eq_false_iff.mpr c8
       subst c8; have H1 : (slices_IndexFunc_int_int_at_logic_first_1_1.l0 k1 l0 (l0.length : Int) (wrap64 (x8_1 + 1)) a2_0) = some r := by rw [if_neg (show ¬ (false = true) by decide)] at H; exact H
       clear H; have H := H1; clear H1; have H' := Aside0.mk H; clear H; have p109 : 0 ≤ (x8_1 : Int) := of_decide_eq_true (by first | (with_reducible assumption) | assumption); have q109 : x8_1 < (l0.length : Int) := of_decide_eq_true (by first | (with_reducible assumption) | assumption); obtain ⟨ad109, e109, hx109_0⟩ := Kd.at_int HR0.out x8_1 p109 q109; cases e109; replace hx109_0 := hc_ HB.out hx109_0; replace p109 := eq_true p109; replace q109 := eq_true q109; go_wp2_with (first | ((with_reducible refine gate_calleev (t := 11) rfl ?_); refine goesV_ (caps := #[.pointer (some ⟨g2, 0, none⟩)]) (some 16) rfl rfl Try.func107 (by kernel_rfl) rfl #[.int .i64 (rd l0 x8_1), .pointer (some ⟨g2, 0, none⟩)] rfl rfl (by (try simp only [List.map_toArray, List.map_cons, List.map_nil]); first | done | rfl | (simp only [List.length_drop, List.length_take]; rfl)) ?_; (with_reducible refine (logic_first_1_1.calls (rd l0 x8_1) g2 a2_0 false _ ?side1 A7.out).mono ?_); (case side1 => exact bk_ BK2.out); rintro e w10 ⟨rfl, hb⟩; refine ⟨_, rfl, ?_⟩; replace BK2 := bb_ BK2 hb; replace HB := bs_ HB hb; (try clear hb))); go_roundg k1
       case measure => have := HK1.out; omega
       case rel => exact ⟨(wrap64 (x8_1 + 1)), (by first | rfl | (simp; done) | (simp [*]; done) | (simp; decide)), H', ⟨by have := HK1.out; omega⟩, ⟨bk_ BK2.out⟩, ⟨bl_ HB.out⟩⟩
     ·rw [if_neg c6] at H
      exact absurd H (by simp)
    ·rw [if_neg c5] at H
     exact absurd H (by simp)
   ·rw [if_neg c4] at H
    have c4b0 : decide (x8_1 < (l0.length : Int)) = false := decide_eq_false c4; clear c4; obtain rfl := Option.some.inj H; go_wp2; go_ret
    exact ⟨rr_, bl_ HB.out⟩

/-! ### slices_ContainsFunc_int_int_at_logic_first_1_1: function 106 -/
def slices_ContainsFunc_int_int_at_logic_first_1_1.f (k : Nat) (l0 : List Int)  (a2_0 : Int) : Option (Bool) := (slices_IndexFunc_int_int_at_logic_first_1_1.f k l0 a2_0).bind fun t111 => (some (decide (t111 ≥ 0)))
theorem slices_ContainsFunc_int_int_at_logic_first_1_1.mono : ∀ a0 a1 k, LeO (slices_ContainsFunc_int_int_at_logic_first_1_1.f k a0 a1) (slices_ContainsFunc_int_int_at_logic_first_1_1.f (k + 1) a0 a1) := by
 intro a0 a1 k; unfold slices_ContainsFunc_int_int_at_logic_first_1_1.f
 repeat' first
   | (with_reducible exact slices_IndexFunc_int_int_at_logic_first_1_1.mono _ _ _)
   | (with_reducible exact LeO.refl _)
   | (with_reducible exact LeO.none _)
   | (with_reducible refine LeO.ite ?_ ?_)
   | (with_reducible refine LeO.bind ?_ (fun _ => ?_))
   | exact slices_IndexFunc_int_int_at_logic_first_1_1.mono _ _ _
   | exact LeO.none _
   | refine LeO.ite ?_ ?_
   | refine LeO.bind ?_ (fun _ => ?_)
set_option maxHeartbeats 8000000 in
set_option maxRecDepth 100000 in
theorem slices_ContainsFunc_int_int_at_logic_first_1_1.calls (k : Nat) (A0 : Option Addr) (c0 : Nat) (l0 : List Int)  (g2 : Nat) (a2_0 : Int) (r : Bool) (w : World) (hr0 : Kd.C (Kd.int .i64) w A0 l0.length l0) (hc0 : l0.length ≤ c0) (hb2 : w.heap[g2]? = some (.cells #[.int .i64 a2_0] 3 (0, 0))) (h : slices_ContainsFunc_int_int_at_logic_first_1_1.f k l0 a2_0 = some r) :
  Calls Try.prog 106 #[.slice A0 l0.length c0, .func (.func 107) #[] #[.pointer (some ⟨g2, 0, none⟩)]] w fun e w' => e = .returned (.bool r) ∧ Below w.heap.size w w' := by
 have HR0 := Aside0.mk hr0; have HC0 := Aside0.mk hc0; clear hr0 hc0; have BK2 := Aside0.mk hb2; clear hb2; have HB := Aside0.mk (Below.refl w.heap.size w); have H : ((slices_IndexFunc_int_int_at_logic_first_1_1.f k l0 a2_0).bind fun t111 => (some (decide (t111 ≥ 0)))) = some r := h; clear h; replace H := Option.bind_eq_some_iff.mp H; obtain ⟨t111, A40, H⟩ := H; replace H : (some (decide (t111 ≥ 0))) = some r := H; have A4 := Aside0.mk A40; clear A40; obtain rfl := Option.some.inj H; go_enter Try.func106, Try.ntmps106
 go_wp2_with (first | ((with_reducible refine gate_callee (f := 111) rfl ?_); refine goesL_ (some 7) rfl rfl Try.func111 (by kernel_rfl) rfl #[.slice A0 l0.length c0, .func (.func 107) #[] #[.pointer (some ⟨g2, 0, none⟩)]] rfl (by (try simp only [List.map_toArray, List.map_cons, List.map_nil]); first | done | rfl | (simp only [List.length_drop, List.length_take]; rfl)) ?_; (with_reducible refine (slices_IndexFunc_int_int_at_logic_first_1_1.calls k _ _ l0  g2 a2_0 t111 _ ?side1 ?side2 ?side3 A4.out).mono ?_); (case side1 => exact cd_ HR0.out); (case side2 => exact HC0.out); (case side3 => exact bk_ BK2.out); rintro e w5 ⟨rfl, hb⟩; refine ⟨_, rfl, ?_⟩; replace BK2 := bb_ BK2 hb; replace HB := bs_ HB hb; (try clear hb)))
 go_ret
 exact ⟨rr_, bl_ HB.out⟩

/-! ### logic_first_1: function 105 -/
def logic_first_1.f (k : Nat) (a0 : Int) (l1_0 : List Int) : Option (Bool) := (slices_ContainsFunc_int_int_at_logic_first_1_1.f k l1_0 a0).bind fun t113 => (some t113)
theorem logic_first_1.mono : ∀ a0 a1 k, LeO (logic_first_1.f k a0 a1) (logic_first_1.f (k + 1) a0 a1) := by
 intro a0 a1 k; unfold logic_first_1.f
 repeat' first
   | (with_reducible exact slices_ContainsFunc_int_int_at_logic_first_1_1.mono _ _ _)
   | (with_reducible exact LeO.refl _)
   | (with_reducible exact LeO.none _)
   | (with_reducible refine LeO.ite ?_ ?_)
   | (with_reducible refine LeO.bind ?_ (fun _ => ?_))
   | exact slices_ContainsFunc_int_int_at_logic_first_1_1.mono _ _ _
   | exact LeO.none _
   | refine LeO.ite ?_ ?_
   | refine LeO.bind ?_ (fun _ => ?_)
set_option maxHeartbeats 8000000 in
set_option maxRecDepth 100000 in
theorem logic_first_1.calls (k : Nat) (a0 : Int) (g1 : Nat) (A1_0 : Option Addr) (c1_0 : Nat) (l1_0 : List Int) (r : Bool) (w : World) (hb1 : w.heap[g1]? = some (.cells #[.slice A1_0 l1_0.length c1_0] 34 (0, 0))) (hr1_0 : Kd.C (Kd.int .i64) w A1_0 l1_0.length l1_0) (hc1_0 : l1_0.length ≤ c1_0) (h : logic_first_1.f k a0 l1_0 = some r) :
  Calls Try.prog 105 #[.int .i64 a0, .pointer (some ⟨g1, 0, none⟩)] w fun e w' => e = .returned (.bool r) ∧ Below w.heap.size w w' := by
 have hmf : ∀ (fn : Fn) (first cap : Array Value) (w : World), (Instr.makeFunc fn first cap).run Try.prog w = .ok (.func fn first cap) w := fun _ _ _ _ => rfl
 have HR1_0 := Aside0.mk hr1_0; have HC1_0 := Aside0.mk hc1_0; clear hr1_0 hc1_0; have BK1 := Aside0.mk hb1; clear hb1; have HB := Aside0.mk (Below.refl w.heap.size w); have H : ((slices_ContainsFunc_int_int_at_logic_first_1_1.f k l1_0 a0).bind fun t113 => (some t113)) = some r := h; clear h; replace H := Option.bind_eq_some_iff.mp H; obtain ⟨t113, A30, H⟩ := H; replace H : (some t113) = some r := H; have A3 := Aside0.mk A30; clear A30; obtain rfl := Option.some.inj H; go_enter Try.func105, Try.ntmps105
 go_wp2_with (first | ((with_reducible refine gate_dst (N := 2) rfl ?_); refine box_event ?hg (N := 2) ?hd (cs := #[.int .i64 a0]) (t := 3) ?hr ?_; (case hd => rfl); (case hg => rfl); (case hr => first | (go_simp; done) | (go_simp; rfl)); intro gb112 hg w4 hbox hb; have BK112 := Aside0.mk (hbox); have GW112 := Aside0.mk ((by rw [hg]; exact (below_size (bl_ HB.out)) : w.heap.size ≤ gb112)); replace HB := bs_ HB hb; have GE112 := GW112; have NB1_112 := Aside0.mk ((by rw [hg]; exact Nat.ne_of_lt (blk_lt (bk_ BK1.out)) : g1 ≠ gb112)); have NB112_1 := Aside0.mk ((by rw [hg]; exact Nat.ne_of_gt (blk_lt (bk_ BK1.out)) : gb112 ≠ g1)); replace BK1 := bb_ BK1 hb; clear hb hbox hg; have hnb5 := NB1_112.out; have hnc5 := NB112_1.out; have hcz6_0 : w4.cell? ⟨g1, 0, none⟩ = some (.slice A1_0 l1_0.length c1_0) := (blk_cell BK1.out 0).trans rfl; have hfz6_0 := blk_frozen BK1.out 0) | ((with_reducible refine gate_callee (f := 106) rfl ?_); refine goesL_ (some 6) rfl rfl Try.func106 (by kernel_rfl) rfl #[.slice A1_0 l1_0.length c1_0, .func (.func 107) #[] #[.pointer (some ⟨gb112, 0, none⟩)]] rfl (by (try simp only [List.map_toArray, List.map_cons, List.map_nil]); first | done | rfl | (simp only [List.length_drop, List.length_take]; rfl)) ?_; (with_reducible refine (slices_ContainsFunc_int_int_at_logic_first_1_1.calls k _ _ l1_0  gb112 a0 t113 _ ?side1 ?side2 ?side3 A3.out).mono ?_); (case side1 => exact cd_ (Kd.C_below HR1_0.out HB.out)); (case side2 => exact HC1_0.out); (case side3 => exact bk_ BK112.out); rintro e w7 ⟨rfl, hb⟩; refine ⟨_, rfl, ?_⟩; replace BK1 := bb_ BK1 hb; replace BK112 := bb_ BK112 hb; replace HB := bs1_ HB GE112 hb; (try clear hb)))
 go_ret
 exact ⟨rr_, bl1_ HB.out GE112.out⟩

/-! ### logic_first: function 91 -/
def logic_first.f (k : Nat) (l0 : List Int) (a1 : Int) (a2 : Int) (a3 : Int) : Option (Int) := (logic_first_1.f k a1 l0).bind fun t115 => (if t115 = true then (some a1) else ((logic_first_1.f k a2 l0).bind fun t116 => (if t116 = true then (some a2) else (some a3))))
theorem logic_first.mono : ∀ a0 a1 a2 a3 k, LeO (logic_first.f k a0 a1 a2 a3) (logic_first.f (k + 1) a0 a1 a2 a3) := by
 intro a0 a1 a2 a3 k; unfold logic_first.f
 repeat' first
   | (with_reducible exact logic_first_1.mono _ _ _)
   | (with_reducible exact LeO.refl _)
   | (with_reducible exact LeO.none _)
   | (with_reducible refine LeO.ite ?_ ?_)
   | (with_reducible refine LeO.bind ?_ (fun _ => ?_))
   | exact logic_first_1.mono _ _ _
   | exact LeO.none _
   | refine LeO.ite ?_ ?_
   | refine LeO.bind ?_ (fun _ => ?_)
set_option maxHeartbeats 8000000 in
set_option maxRecDepth 100000 in
theorem logic_first.calls (k : Nat) (A0 : Option Addr) (c0 : Nat) (l0 : List Int) (a1 : Int) (a2 : Int) (a3 : Int) (r : Int) (w : World) (hr0 : Kd.C (Kd.int .i64) w A0 l0.length l0) (hc0 : l0.length ≤ c0) (h : logic_first.f k l0 a1 a2 a3 = some r) :
  Calls Try.prog 91 #[.slice A0 l0.length c0, .int .i64 a1, .int .i64 a2, .int .i64 a3] w fun e w' => e = .returned (.int .i64 r) ∧ Below w.heap.size w w' := by
 have hmf : ∀ (fn : Fn) (first cap : Array Value) (w : World), (Instr.makeFunc fn first cap).run Try.prog w = .ok (.func fn first cap) w := fun _ _ _ _ => rfl
 have HR0 := Aside0.mk hr0; have HC0 := Aside0.mk hc0; clear hr0 hc0; have HB := Aside0.mk (Below.refl w.heap.size w); have H : ((logic_first_1.f k a1 l0).bind fun t115 => (if t115 = true then (some a1) else ((logic_first_1.f k a2 l0).bind fun t116 => (if t116 = true then (some a2) else (some a3))))) = some r := h; clear h; replace H := Option.bind_eq_some_iff.mp H; obtain ⟨t115, A50, H⟩ := H; replace H : (if t115 = true then (some a1) else ((logic_first_1.f k a2 l0).bind fun t116 => (if t116 = true then (some a2) else (some a3)))) = some r := H; have A5 := Aside0.mk A50; clear A50; by_cases c6 : t115 = true
 ·subst c6
  have H1 : (some a1) = some r := by rw [if_pos rfl] at H; exact H
  clear H; have H := H1; clear H1; obtain rfl := Option.some.inj H; go_enter Try.func91, Try.ntmps91
  go_wp2_with (first | ((with_reducible refine gate_dst (N := 4) rfl ?_); refine box_event ?hg (N := 4) ?hd (cs := #[.slice A0 l0.length c0]) (t := 34) ?hr ?_; (case hd => rfl); (case hg => rfl); (case hr => first | (go_simp; done) | (go_simp; rfl)); intro gb114 hg w7 hbox hb; have BK114 := Aside0.mk (hbox); have GW114 := Aside0.mk ((by rw [hg]; exact (below_size (bl_ HB.out)) : w.heap.size ≤ gb114)); replace HB := bs_ HB hb; have GE114 := GW114; clear hb hbox hg) | ((with_reducible refine gate_calleev (t := 12) rfl ?_); refine goesV_ (caps := #[.pointer (some ⟨gb114, 0, none⟩)]) (some 14) rfl rfl Try.func105 (by kernel_rfl) rfl #[.int .i64 a1, .pointer (some ⟨gb114, 0, none⟩)] rfl rfl (by (try simp only [List.map_toArray, List.map_cons, List.map_nil]); first | done | rfl | (simp only [List.length_drop, List.length_take]; rfl)) ?_; (with_reducible refine (logic_first_1.calls k a1 gb114 A0 c0 l0 true _ ?side1 ?side2 ?side3 A5.out).mono ?_); (case side1 => exact bk_ BK114.out); (case side2 => exact cd_ (Kd.C_below HR0.out HB.out)); (case side3 => exact HC0.out); rintro e w8 ⟨rfl, hb⟩; refine ⟨_, rfl, ?_⟩; replace BK114 := bb_ BK114 hb; replace HB := bs1_ HB GE114 hb; (try clear hb)))
  go_ret
  exact ⟨rr_, bl1_ HB.out GE114.out⟩
 ·replace c6 := Bool.eq_false_iff.mpr c6
  subst c6; have H1 : ((logic_first_1.f k a2 l0).bind fun t116 => (if t116 = true then (some a2) else (some a3))) = some r := by rw [if_neg (show ¬ (false = true) by decide)] at H; exact H
  clear H; have H := H1; clear H1; replace H := Option.bind_eq_some_iff.mp H; obtain ⟨t116, A90, H⟩ := H; replace H : (if t116 = true then (some a2) else (some a3)) = some r := H; have A9 := Aside0.mk A90; clear A90; by_cases c10 : t116 = true
  ·subst c10
   have H1 : (some a2) = some r := by rw [if_pos rfl] at H; exact H
   clear H; have H := H1; clear H1; obtain rfl := Option.some.inj H; go_enter Try.func91, Try.ntmps91
   go_wp2_with (first | ((with_reducible refine gate_dst (N := 4) rfl ?_); refine box_event ?hg (N := 4) ?hd (cs := #[.slice A0 l0.length c0]) (t := 34) ?hr ?_; (case hd => rfl); (case hg => rfl); (case hr => first | (go_simp; done) | (go_simp; rfl)); intro gb114 hg w11 hbox hb; have BK114 := Aside0.mk (hbox); have GW114 := Aside0.mk ((by rw [hg]; exact (below_size (bl_ HB.out)) : w.heap.size ≤ gb114)); replace HB := bs_ HB hb; have GE114 := GW114; clear hb hbox hg) | ((with_reducible refine gate_calleev (t := 12) rfl ?_); refine goesV_ (caps := #[.pointer (some ⟨gb114, 0, none⟩)]) (some 14) rfl rfl Try.func105 (by kernel_rfl) rfl #[.int .i64 a1, .pointer (some ⟨gb114, 0, none⟩)] rfl rfl (by (try simp only [List.map_toArray, List.map_cons, List.map_nil]); first | done | rfl | (simp only [List.length_drop, List.length_take]; rfl)) ?_; (with_reducible refine (logic_first_1.calls k a1 gb114 A0 c0 l0 false _ ?side1 ?side2 ?side3 A5.out).mono ?_); (case side1 => exact bk_ BK114.out); (case side2 => exact cd_ (Kd.C_below HR0.out HB.out)); (case side3 => exact HC0.out); rintro e w12 ⟨rfl, hb⟩; refine ⟨_, rfl, ?_⟩; replace BK114 := bb_ BK114 hb; replace HB := bs1_ HB GE114 hb; (try clear hb)) | ((with_reducible refine gate_calleev (t := 17) rfl ?_); refine goesV_ (caps := #[.pointer (some ⟨gb114, 0, none⟩)]) (some 19) rfl rfl Try.func105 (by kernel_rfl) rfl #[.int .i64 a2, .pointer (some ⟨gb114, 0, none⟩)] rfl rfl (by (try simp only [List.map_toArray, List.map_cons, List.map_nil]); first | done | rfl | (simp only [List.length_drop, List.length_take]; rfl)) ?_; (with_reducible refine (logic_first_1.calls k a2 gb114 A0 c0 l0 true _ ?side1 ?side2 ?side3 A9.out).mono ?_); (case side1 => exact bk_ BK114.out); (case side2 => exact cd_ (Kd.C_below HR0.out HB.out)); (case side3 => exact HC0.out); rintro e w13 ⟨rfl, hb⟩; refine ⟨_, rfl, ?_⟩; replace BK114 := bb_ BK114 hb; replace HB := bs1_ HB GE114 hb; (try clear hb)))
   go_ret
   exact ⟨rr_, bl1_ HB.out GE114.out⟩
  ·replace c10 := Bool.eq_false_iff.mpr c10
   subst c10; have H1 : (some a3) = some r := by rw [if_neg (show ¬ (false = true) by decide)] at H; exact H
   clear H; have H := H1; clear H1; obtain rfl := Option.some.inj H; go_enter Try.func91, Try.ntmps91
   go_wp2_with (first | ((with_reducible refine gate_dst (N := 4) rfl ?_); refine box_event ?hg (N := 4) ?hd (cs := #[.slice A0 l0.length c0]) (t := 34) ?hr ?_; (case hd => rfl); (case hg => rfl); (case hr => first | (go_simp; done) | (go_simp; rfl)); intro gb114 hg w14 hbox hb; have BK114 := Aside0.mk (hbox); have GW114 := Aside0.mk ((by rw [hg]; exact (below_size (bl_ HB.out)) : w.heap.size ≤ gb114)); replace HB := bs_ HB hb; have GE114 := GW114; clear hb hbox hg) | ((with_reducible refine gate_calleev (t := 12) rfl ?_); refine goesV_ (caps := #[.pointer (some ⟨gb114, 0, none⟩)]) (some 14) rfl rfl Try.func105 (by kernel_rfl) rfl #[.int .i64 a1, .pointer (some ⟨gb114, 0, none⟩)] rfl rfl (by (try simp only [List.map_toArray, List.map_cons, List.map_nil]); first | done | rfl | (simp only [List.length_drop, List.length_take]; rfl)) ?_; (with_reducible refine (logic_first_1.calls k a1 gb114 A0 c0 l0 false _ ?side1 ?side2 ?side3 A5.out).mono ?_); (case side1 => exact bk_ BK114.out); (case side2 => exact cd_ (Kd.C_below HR0.out HB.out)); (case side3 => exact HC0.out); rintro e w15 ⟨rfl, hb⟩; refine ⟨_, rfl, ?_⟩; replace BK114 := bb_ BK114 hb; replace HB := bs1_ HB GE114 hb; (try clear hb)) | ((with_reducible refine gate_calleev (t := 17) rfl ?_); refine goesV_ (caps := #[.pointer (some ⟨gb114, 0, none⟩)]) (some 19) rfl rfl Try.func105 (by kernel_rfl) rfl #[.int .i64 a2, .pointer (some ⟨gb114, 0, none⟩)] rfl rfl (by (try simp only [List.map_toArray, List.map_cons, List.map_nil]); first | done | rfl | (simp only [List.length_drop, List.length_take]; rfl)) ?_; (with_reducible refine (logic_first_1.calls k a2 gb114 A0 c0 l0 false _ ?side1 ?side2 ?side3 A9.out).mono ?_); (case side1 => exact bk_ BK114.out); (case side2 => exact cd_ (Kd.C_below HR0.out HB.out)); (case side3 => exact HC0.out); rintro e w16 ⟨rfl, hb⟩; refine ⟨_, rfl, ?_⟩; replace BK114 := bb_ BK114 hb; replace HB := bs1_ HB GE114 hb; (try clear hb)))
   go_ret
   exact ⟨rr_, bl1_ HB.out GE114.out⟩

/-! ### logic_And: function 60 -/
def logic_And.f (k : Nat) (l0 : List Int) : Option (Int) := (logic_first.f k l0 0 1 2).bind fun t117 => (some t117)
theorem logic_And.mono : ∀ a0 k, LeO (logic_And.f k a0) (logic_And.f (k + 1) a0) := by
  intro a0 k
  unfold logic_And.f
  repeat' first
      | (with_reducible exact logic_first.mono _ _ _ _ _)
      | (with_reducible exact LeO.refl _)
      | (with_reducible exact LeO.none _)
      | (with_reducible refine LeO.ite ?_ ?_)
      | (with_reducible refine LeO.bind ?_ (fun _ => ?_))
      | exact logic_first.mono _ _ _ _ _
      | exact LeO.none _
      | refine LeO.ite ?_ ?_
      | refine LeO.bind ?_ (fun _ => ?_)
set_option maxHeartbeats 8000000 in
set_option maxRecDepth 100000 in
theorem logic_And.calls (k : Nat) (A0 : Option Addr) (c0 : Nat) (l0 : List Int) (r : Int) (w : World) (hr0 : Kd.C (Kd.int .i64) w A0 l0.length l0) (hc0 : l0.length ≤ c0) (h : logic_And.f k l0 = some r) :
    Calls Try.prog 60 #[.slice A0 l0.length c0] w fun e w' => e = .returned (.int .i64 r) ∧ Below w.heap.size w w' := by
  have HR0 := Aside0.mk hr0
  have HC0 := Aside0.mk hc0
  clear hr0 hc0
  have HB := Aside0.mk (Below.refl w.heap.size w)
  have H : ((logic_first.f k l0 0 1 2).bind fun t117 => (some t117)) = some r := h
  clear h
  replace H := Option.bind_eq_some_iff.mp H
  obtain ⟨t117, A20, H⟩ := H
  replace H : (some t117) = some r := H
  have A2 := Aside0.mk A20
  clear A20
  obtain rfl := Option.some.inj H
  go_enter Try.func60, Try.ntmps60
  go_wp2_with (first | ((with_reducible refine gate_callee (f := 91) rfl ?_); refine goesL_ (some 4) rfl rfl Try.func91 (by kernel_rfl) rfl #[.slice A0 l0.length c0, .int .i64 0, .int .i64 1, .int .i64 2] rfl (by (try simp only [List.map_toArray, List.map_cons, List.map_nil]); first | done | rfl | (simp only [List.length_drop, List.length_take]; rfl)) ?_; (with_reducible refine (logic_first.calls k _ _ l0 0 1 2 t117 _ ?side1 ?side2 A2.out).mono ?_); (case side1 => repeat (first | exact HR0.out | (with_reducible refine Kd.C_alloc ?_ _) | (with_reducible refine Kd.C_drewN ?_ _) | (with_reducible refine Kd.C_drew ?_))); (case side2 => exact HC0.out); rintro e w3 ⟨rfl, hb⟩; refine ⟨_, rfl, ?_⟩; have n0_ := Aside0.mk (below_step (by repeat (first | (with_reducible first | exact HB.out | apply below_alloc | apply pw_below_drewN | apply below_drew1) | exact HB.out)) hb); clear HB; have HB := n0_; clear n0_; (try clear hb); (try clear hb2); (try clear hk); (try clear hi)))
  go_ret
  exact ⟨by first | rfl | (simp [errW_none, errW_some] <;> rfl) | (simp [*, errW_none, errW_some] <;> rfl), by repeat (first | (with_reducible first | exact HB.out | apply below_alloc | apply pw_below_drewN | apply below_drew1) | exact HB.out)⟩

/-! ### reject_only: function 57 -/
def reject_only.f (k : Nat) (a0 : Int) : Option (Bool × Bool × Bool) := (logic_And.f k (([a0] : List Int))).bind fun t123 => (if t123 = 0 then (some (true, false, false)) else (if t123 = 1 then (some (false, true, false)) else (if t123 = 2 then (some (false, false, true)) else (none))))
theorem reject_only.mono : ∀ a0 k, LeO (reject_only.f k a0) (reject_only.f (k + 1) a0) := by
 intro a0 k; unfold reject_only.f
 repeat' first
   | (with_reducible exact logic_And.mono _ _)
   | (with_reducible exact LeO.refl _)
   | (with_reducible exact LeO.none _)
   | (with_reducible refine LeO.ite ?_ ?_)
   | (with_reducible refine LeO.bind ?_ (fun _ => ?_))
   | exact logic_And.mono _ _
   | exact LeO.none _
   | refine LeO.ite ?_ ?_
   | refine LeO.bind ?_ (fun _ => ?_)
set_option maxHeartbeats 8000000 in
set_option maxRecDepth 100000 in
theorem reject_only.calls (k : Nat) (a0 : Int) (r1 : Bool) (r2 : Bool) (r3 : Bool) (w : World) (h : reject_only.f k a0 = some (r1, r2, r3)) :
  Calls Try.prog 57 #[.int .i64 a0] w fun e w' => e = .returned (.agg #[.bool r1, .bool r2, .bool r3]) ∧ Below w.heap.size w w' := by
 have hu39 := Try.underlying39; have HB := Aside0.mk (Below.refl w.heap.size w); have H : ((logic_And.f k (([a0] : List Int))).bind fun t123 => (if t123 = 0 then (some (true, false, false)) else (if t123 = 1 then (some (false, true, false)) else (if t123 = 2 then (some (false, false, true)) else (none))))) = some (r1, r2, r3) := h; clear h; obtain ⟨y120, hy120⟩ : ∃ y_ : List Int, y_ = (([a0] : List Int)) := ⟨_, rfl⟩; replace H : ((logic_And.f k y120).bind fun t123 => (if t123 = 0 then (some (true, false, false)) else (if t123 = 1 then (some (false, true, false)) else (if t123 = 2 then (some (false, false, true)) else (none))))) = some (r1, r2, r3) := by first | (rw [hy120]; with_reducible exact H) | (have H2_ := (Option.bind_some _ _).symm.trans H; rw [hy120]; with_reducible exact H2_) | (have H2_ := (Option.bind_some _ _).symm.trans H; with_reducible exact H2_) | with_reducible exact H | (rw [hy120]; exact H) | exact H
 have Ny120 := Aside0.mk hy120; clear hy120; replace H := Option.bind_eq_some_iff.mp H; obtain ⟨t123, A20, H⟩ := H; replace H : (if t123 = 0 then (some (true, false, false)) else (if t123 = 1 then (some (false, true, false)) else (if t123 = 2 then (some (false, false, true)) else (none)))) = some (r1, r2, r3) := H; have A2 := Aside0.mk A20; clear A20; by_cases c3 : t123 = 0
 ·subst c3
  have H1 : (some (true, false, false)) = some (r1, r2, r3) := by rw [if_pos rfl] at H; exact H
  clear H; have H := H1; clear H1; simp only [Option.some.injEq, Prod.mk.injEq] at H; obtain ⟨rfl, rfl, rfl⟩ := H; go_enter Try.func57, Try.ntmps57
  go_wp2_with (first | ((with_reducible refine gate_dst (N := 2) rfl ?_); refine box_event ?hg (N := 2) ?hd (cs := #[.bool false, .bool false, .bool false]) (t := 39) ?hr ?_; (case hd => rfl); (case hg => rfl); (case hr => first | (go_simp; done) | (go_simp; rfl)); intro gb118 hg w4 hbox hb; have BK118 := Aside0.mk (hbox); have GW118 := Aside0.mk ((by rw [hg]; exact (below_size (bl_ HB.out)) : w.heap.size ≤ gb118)); replace HB := bs_ HB hb; have GE118 := GW118; clear hb hbox hg) | ((with_reducible refine gate_dst (N := 3) rfl ?_); refine box_event ?hg (N := 3) ?hd (cs := #[.bool false, .bool false, .bool false]) (t := 39) ?hr ?_; (case hd => rfl); (case hg => rfl); (case hr => first | (go_simp; done) | (go_simp; rfl)); intro gb119 hg w5 hbox hb; have BK119 := Aside0.mk (hbox); have GW119 := Aside0.mk ((by rw [hg]; exact (below_size (bl1_ HB.out GE118.out)) : w.heap.size ≤ gb119)); replace HB := bs1_ HB GE118 hb; have GE119 := GW119; have NB118_119 := Aside0.mk ((by rw [hg]; exact Nat.ne_of_lt (blk_lt (bk_ BK118.out)) : gb118 ≠ gb119)); have NB119_118 := Aside0.mk ((by rw [hg]; exact Nat.ne_of_gt (blk_lt (bk_ BK118.out)) : gb119 ≠ gb118)); replace BK118 := bb_ BK118 hb; clear hb hbox hg) | ((with_reducible refine gate_dst (N := 5) rfl ?_); refine Kd.R_lit (Kd.int .i64) _ 3 ?hg (N := 5) ?hd (xs := ([a0] : List Int)) (inner := [.int .i64 a0]) (ok := fun _ => True) (okp := fun _ => True) ?hr ?hp (fun _ hk => hk) trivial (Below.refl _ _) (Nat.le_refl _) (by simp) ?_; (case hd => rfl); (case hg => rfl); (case hr => first | (go_simp; done) | (go_simp; rfl)); (case hp => exact (Reps.one (show Kd.M (Kd.int .i64) _ _ _ a0 [.int .i64 a0] from rfl) (Reps.none _ _))); intro v121 w6 ho7 hb hg_ hnew_; clear hg_ hnew_; (first | rw [← Ny120.out] at ho7 | (simp only [Int.reduceToNat] at ho7; rw [← Ny120.out] at ho7)); have HO122 := Aside0.mk (Kd.R_lower ho7 (below_size (bl2_ HB.out GE118.out GE119.out))); replace BK118 := bb_ BK118 hb; replace BK119 := bb_ BK119 hb; replace HB := bs2_ HB GE118 GE119 hb; clear hb ho7; obtain ⟨Ao8, co8, eo8⟩ := Kd.R_slice HO122.out; subst eo8) | ((with_reducible refine gate_callee (f := 60) rfl ?_); refine goesL_ (some 6) rfl rfl Try.func60 (by kernel_rfl) rfl #[.slice Ao8 y120.length co8] rfl (by (try simp only [List.map_toArray, List.map_cons, List.map_nil]); first | done | rfl | (simp only [List.length_drop, List.length_take]; rfl)) ?_; (with_reducible refine (logic_And.calls k _ _ y120 0 _ ?side1 ?side2 A2.out).mono ?_); (case side1 => exact cd_ ((Kd.R_reads' HO122.out).2.2)); (case side2 => exact (Kd.R_reads' HO122.out).2.1); rintro e w9 ⟨rfl, hb⟩; refine ⟨_, rfl, ?_⟩; replace HO122 := rb_ HO122 hb; replace BK118 := bb_ BK118 hb; replace BK119 := bb_ BK119 hb; replace HB := bs2_ HB GE118 GE119 hb; (try clear hb); have hnb10 := NB119_118.out; have hnc10 := NB118_119.out; have hcz11 := blk_cell BK119.out; have hfz11 := blk_frozen BK119.out; have hcz12 := blk_cell BK118.out; have hfz12_0 := blk_frozen BK118.out 0; have hfz12_1 := blk_frozen BK118.out 1; have hfz12_2 := blk_frozen BK118.out 2))
  refine bodyPost_ret (results_cell_row rfl _ _ gb118 39 #[.bool true, .bool false, .bool false] (0, 0) _ rfl (by (with_reducible repeat (first | refine blk_drewN ?_ _ | refine blk_drew ?_ | refine blk_alloc ?_ _)); refine blk_put (cs := #[.bool true, .bool false, .bool false]) ?_ 2 _ rfl; (with_reducible repeat (first | refine blk_drewN ?_ _ | refine blk_drew ?_ | refine blk_alloc ?_ _)); refine blk_put (cs := #[.bool true, .bool false, .bool false]) ?_ 1 _ rfl; (with_reducible repeat (first | refine blk_drewN ?_ _ | refine blk_drew ?_ | refine blk_alloc ?_ _)); refine blk_put (cs := #[.bool false, .bool false, .bool false]) ?_ 0 _ rfl; (with_reducible repeat (first | refine blk_drewN ?_ _ | refine blk_drew ?_ | refine blk_alloc ?_ _)); refine blk_far ?_ NB118_119.out _; (with_reducible repeat (first | refine blk_drewN ?_ _ | refine blk_drew ?_ | refine blk_alloc ?_ _)); exact BK118.out) Try.underlying39 rfl (by kernel_rfl)) rfl ?_; exact ⟨rr_, bl2_ HB.out GE118.out GE119.out⟩
 ·rw [if_neg c3] at H
  by_cases c13 : t123 = 1
  ·subst c13
   have H1 : (some (false, true, false)) = some (r1, r2, r3) := by rw [if_pos rfl] at H; exact H
   clear H; have H := H1; clear H1; simp only [Option.some.injEq, Prod.mk.injEq] at H; obtain ⟨rfl, rfl, rfl⟩ := H; go_enter Try.func57, Try.ntmps57
   go_wp2_with (first | ((with_reducible refine gate_dst (N := 2) rfl ?_); refine box_event ?hg (N := 2) ?hd (cs := #[.bool false, .bool false, .bool false]) (t := 39) ?hr ?_; (case hd => rfl); (case hg => rfl); (case hr => first | (go_simp; done) | (go_simp; rfl)); intro gb118 hg w14 hbox hb; have BK118 := Aside0.mk (hbox); have GW118 := Aside0.mk ((by rw [hg]; exact (below_size (bl_ HB.out)) : w.heap.size ≤ gb118)); replace HB := bs_ HB hb; have GE118 := GW118; clear hb hbox hg) | ((with_reducible refine gate_dst (N := 3) rfl ?_); refine box_event ?hg (N := 3) ?hd (cs := #[.bool false, .bool false, .bool false]) (t := 39) ?hr ?_; (case hd => rfl); (case hg => rfl); (case hr => first | (go_simp; done) | (go_simp; rfl)); intro gb119 hg w15 hbox hb; have BK119 := Aside0.mk (hbox); have GW119 := Aside0.mk ((by rw [hg]; exact (below_size (bl1_ HB.out GE118.out)) : w.heap.size ≤ gb119)); replace HB := bs1_ HB GE118 hb; have GE119 := GW119; have NB118_119 := Aside0.mk ((by rw [hg]; exact Nat.ne_of_lt (blk_lt (bk_ BK118.out)) : gb118 ≠ gb119)); have NB119_118 := Aside0.mk ((by rw [hg]; exact Nat.ne_of_gt (blk_lt (bk_ BK118.out)) : gb119 ≠ gb118)); replace BK118 := bb_ BK118 hb; clear hb hbox hg) | ((with_reducible refine gate_dst (N := 5) rfl ?_); refine Kd.R_lit (Kd.int .i64) _ 3 ?hg (N := 5) ?hd (xs := ([a0] : List Int)) (inner := [.int .i64 a0]) (ok := fun _ => True) (okp := fun _ => True) ?hr ?hp (fun _ hk => hk) trivial (Below.refl _ _) (Nat.le_refl _) (by simp) ?_; (case hd => rfl); (case hg => rfl); (case hr => first | (go_simp; done) | (go_simp; rfl)); (case hp => exact (Reps.one (show Kd.M (Kd.int .i64) _ _ _ a0 [.int .i64 a0] from rfl) (Reps.none _ _))); intro v121 w16 ho17 hb hg_ hnew_; clear hg_ hnew_; (first | rw [← Ny120.out] at ho17 | (simp only [Int.reduceToNat] at ho17; rw [← Ny120.out] at ho17)); have HO122 := Aside0.mk (Kd.R_lower ho17 (below_size (bl2_ HB.out GE118.out GE119.out))); replace BK118 := bb_ BK118 hb; replace BK119 := bb_ BK119 hb; replace HB := bs2_ HB GE118 GE119 hb; clear hb ho17; obtain ⟨Ao18, co18, eo18⟩ := Kd.R_slice HO122.out; subst eo18) | ((with_reducible refine gate_callee (f := 60) rfl ?_); refine goesL_ (some 6) rfl rfl Try.func60 (by kernel_rfl) rfl #[.slice Ao18 y120.length co18] rfl (by (try simp only [List.map_toArray, List.map_cons, List.map_nil]); first | done | rfl | (simp only [List.length_drop, List.length_take]; rfl)) ?_; (with_reducible refine (logic_And.calls k _ _ y120 1 _ ?side1 ?side2 A2.out).mono ?_); (case side1 => exact cd_ ((Kd.R_reads' HO122.out).2.2)); (case side2 => exact (Kd.R_reads' HO122.out).2.1); rintro e w19 ⟨rfl, hb⟩; refine ⟨_, rfl, ?_⟩; replace HO122 := rb_ HO122 hb; replace BK118 := bb_ BK118 hb; replace BK119 := bb_ BK119 hb; replace HB := bs2_ HB GE118 GE119 hb; (try clear hb); have hnb20 := NB119_118.out; have hnc20 := NB118_119.out; have hcz21 := blk_cell BK119.out; have hfz21 := blk_frozen BK119.out; have hcz22 := blk_cell BK118.out; have hfz22_0 := blk_frozen BK118.out 0; have hfz22_1 := blk_frozen BK118.out 1; have hfz22_2 := blk_frozen BK118.out 2))
   refine bodyPost_ret (results_cell_row rfl _ _ gb118 39 #[.bool false, .bool true, .bool false] (0, 0) _ rfl (by (with_reducible repeat (first | refine blk_drewN ?_ _ | refine blk_drew ?_ | refine blk_alloc ?_ _)); refine blk_put (cs := #[.bool false, .bool true, .bool false]) ?_ 2 _ rfl; (with_reducible repeat (first | refine blk_drewN ?_ _ | refine blk_drew ?_ | refine blk_alloc ?_ _)); refine blk_put (cs := #[.bool false, .bool false, .bool false]) ?_ 1 _ rfl; (with_reducible repeat (first | refine blk_drewN ?_ _ | refine blk_drew ?_ | refine blk_alloc ?_ _)); refine blk_put (cs := #[.bool false, .bool false, .bool false]) ?_ 0 _ rfl; (with_reducible repeat (first | refine blk_drewN ?_ _ | refine blk_drew ?_ | refine blk_alloc ?_ _)); refine blk_far ?_ NB118_119.out _; (with_reducible repeat (first | refine blk_drewN ?_ _ | refine blk_drew ?_ | refine blk_alloc ?_ _)); exact BK118.out) Try.underlying39 rfl (by kernel_rfl)) rfl ?_; exact ⟨rr_, bl2_ HB.out GE118.out GE119.out⟩
  ·rw [if_neg c13] at H
   by_cases c23 : t123 = 2
   ·subst c23
    have H1 : (some (false, false, true)) = some (r1, r2, r3) := by rw [if_pos rfl] at H; exact H
    clear H; have H := H1; clear H1; simp only [Option.some.injEq, Prod.mk.injEq] at H; obtain ⟨rfl, rfl, rfl⟩ := H; go_enter Try.func57, Try.ntmps57
    go_wp2_with (first | ((with_reducible refine gate_dst (N := 2) rfl ?_); refine box_event ?hg (N := 2) ?hd (cs := #[.bool false, .bool false, .bool false]) (t := 39) ?hr ?_; (case hd => rfl); (case hg => rfl); (case hr => first | (go_simp; done) | (go_simp; rfl)); intro gb118 hg w24 hbox hb; have BK118 := Aside0.mk (hbox); have GW118 := Aside0.mk ((by rw [hg]; exact (below_size (bl_ HB.out)) : w.heap.size ≤ gb118)); replace HB := bs_ HB hb; have GE118 := GW118; clear hb hbox hg) | ((with_reducible refine gate_dst (N := 3) rfl ?_); refine box_event ?hg (N := 3) ?hd (cs := #[.bool false, .bool false, .bool false]) (t := 39) ?hr ?_; (case hd => rfl); (case hg => rfl); (case hr => first | (go_simp; done) | (go_simp; rfl)); intro gb119 hg w25 hbox hb; have BK119 := Aside0.mk (hbox); have GW119 := Aside0.mk ((by rw [hg]; exact (below_size (bl1_ HB.out GE118.out)) : w.heap.size ≤ gb119)); replace HB := bs1_ HB GE118 hb; have GE119 := GW119; have NB118_119 := Aside0.mk ((by rw [hg]; exact Nat.ne_of_lt (blk_lt (bk_ BK118.out)) : gb118 ≠ gb119)); have NB119_118 := Aside0.mk ((by rw [hg]; exact Nat.ne_of_gt (blk_lt (bk_ BK118.out)) : gb119 ≠ gb118)); replace BK118 := bb_ BK118 hb; clear hb hbox hg) | ((with_reducible refine gate_dst (N := 5) rfl ?_); refine Kd.R_lit (Kd.int .i64) _ 3 ?hg (N := 5) ?hd (xs := ([a0] : List Int)) (inner := [.int .i64 a0]) (ok := fun _ => True) (okp := fun _ => True) ?hr ?hp (fun _ hk => hk) trivial (Below.refl _ _) (Nat.le_refl _) (by simp) ?_; (case hd => rfl); (case hg => rfl); (case hr => first | (go_simp; done) | (go_simp; rfl)); (case hp => exact (Reps.one (show Kd.M (Kd.int .i64) _ _ _ a0 [.int .i64 a0] from rfl) (Reps.none _ _))); intro v121 w26 ho27 hb hg_ hnew_; clear hg_ hnew_; (first | rw [← Ny120.out] at ho27 | (simp only [Int.reduceToNat] at ho27; rw [← Ny120.out] at ho27)); have HO122 := Aside0.mk (Kd.R_lower ho27 (below_size (bl2_ HB.out GE118.out GE119.out))); replace BK118 := bb_ BK118 hb; replace BK119 := bb_ BK119 hb; replace HB := bs2_ HB GE118 GE119 hb; clear hb ho27; obtain ⟨Ao28, co28, eo28⟩ := Kd.R_slice HO122.out; subst eo28) | ((with_reducible refine gate_callee (f := 60) rfl ?_); refine goesL_ (some 6) rfl rfl Try.func60 (by kernel_rfl) rfl #[.slice Ao28 y120.length co28] rfl (by (try simp only [List.map_toArray, List.map_cons, List.map_nil]); first | done | rfl | (simp only [List.length_drop, List.length_take]; rfl)) ?_; (with_reducible refine (logic_And.calls k _ _ y120 2 _ ?side1 ?side2 A2.out).mono ?_); (case side1 => exact cd_ ((Kd.R_reads' HO122.out).2.2)); (case side2 => exact (Kd.R_reads' HO122.out).2.1); rintro e w29 ⟨rfl, hb⟩; refine ⟨_, rfl, ?_⟩; replace HO122 := rb_ HO122 hb; replace BK118 := bb_ BK118 hb; replace BK119 := bb_ BK119 hb; replace HB := bs2_ HB GE118 GE119 hb; (try clear hb); have hnb30 := NB119_118.out; have hnc30 := NB118_119.out; have hcz31 := blk_cell BK119.out; have hfz31 := blk_frozen BK119.out; have hcz32 := blk_cell BK118.out; have hfz32_0 := blk_frozen BK118.out 0; have hfz32_1 := blk_frozen BK118.out 1; have hfz32_2 := blk_frozen BK118.out 2))
    refine bodyPost_ret (results_cell_row rfl _ _ gb118 39 #[.bool false, .bool false, .bool true] (0, 0) _ rfl (by (with_reducible repeat (first | refine blk_drewN ?_ _ | refine blk_drew ?_ | refine blk_alloc ?_ _)); refine blk_put (cs := #[.bool false, .bool false, .bool false]) ?_ 2 _ rfl; (with_reducible repeat (first | refine blk_drewN ?_ _ | refine blk_drew ?_ | refine blk_alloc ?_ _)); refine blk_put (cs := #[.bool false, .bool false, .bool false]) ?_ 1 _ rfl; (with_reducible repeat (first | refine blk_drewN ?_ _ | refine blk_drew ?_ | refine blk_alloc ?_ _)); refine blk_put (cs := #[.bool false, .bool false, .bool false]) ?_ 0 _ rfl; (with_reducible repeat (first | refine blk_drewN ?_ _ | refine blk_drew ?_ | refine blk_alloc ?_ _)); refine blk_far ?_ NB118_119.out _; (with_reducible repeat (first | refine blk_drewN ?_ _ | refine blk_drew ?_ | refine blk_alloc ?_ _)); exact BK118.out) Try.underlying39 rfl (by kernel_rfl)) rfl ?_; exact ⟨rr_, bl2_ HB.out GE118.out GE119.out⟩
   ·rw [if_neg c23] at H
    exact absurd H (by simp)

/-! ### sets_one: function 89 -/
def sets_one.f (a0 : Int) : Option (Int) := if a0 < 0 then (some 0) else (if a0 ≥ 64 then (some 0) else (if 0 ≤ (IntKind.u64.wrap (a0)) then (some (shl .u64 1 (IntKind.u64.wrap (a0)))) else (none)))
set_option maxHeartbeats 8000000 in
set_option maxRecDepth 100000 in
theorem sets_one.calls (a0 : Int) (r : Int) (w : World) (h : sets_one.f a0 = some r) :
  Calls Try.prog 89 #[.int .i64 a0] w fun e w' => e = .returned (.int .u64 r) ∧ Drawn0 w w' := by
 have H : (if a0 < 0 then (some 0) else (if a0 ≥ 64 then (some 0) else (if 0 ≤ (IntKind.u64.wrap (a0)) then (some (shl .u64 1 (IntKind.u64.wrap (a0)))) else (none)))) = some r := h; clear h; by_cases c2 : a0 < 0
 ·rw [if_pos c2] at H
  have c2b0 : decide (a0 < 0) = true := decide_eq_true c2; clear c2; obtain rfl := Option.some.inj H; go_enter Try.func89, Try.ntmps89
  go_wp2
  go_ret
  exact ⟨by first | rfl | (simp; done) | (simp [*]; done), by repeat (first | exact Drawn0.refl _ | apply Drawn0.step)⟩
 ·rw [if_neg c2] at H
  have c2b0 : decide (a0 < 0) = false := decide_eq_false c2; clear c2; by_cases c3 : a0 ≥ 64
  ·rw [if_pos c3] at H
   have c3b0 : decide (64 ≤ a0) = true := decide_eq_true c3; clear c3; obtain rfl := Option.some.inj H; go_enter Try.func89, Try.ntmps89
   go_wp2
   go_ret
   exact ⟨by first | rfl | (simp; done) | (simp [*]; done), by repeat (first | exact Drawn0.refl _ | apply Drawn0.step)⟩
  ·rw [if_neg c3] at H
   have c3b0 : decide (64 ≤ a0) = false := decide_eq_false c3; clear c3; obtain ⟨ji4, hji4⟩ : ∃ j_ : Int, (IntKind.u64.wrap (a0)) = j_ := ⟨_, rfl⟩; replace H : (if 0 ≤ (ji4) then (some (shl .u64 1 (ji4))) else (none)) = some r := by first | (rw [hji4] at H; exact H) | (simp only [hji4] at H ⊢; exact H)
   by_cases c5 : 0 ≤ (ji4)
   ·rw [if_pos c5] at H
    have c5b0 := eq_true c5; have c5b1 : decide (0 ≤ (ji4)) = true := decide_eq_true c5; clear c5; obtain ⟨ji6, hji6⟩ : ∃ j_ : Int, (shl .u64 1 (ji4)) = j_ := ⟨_, rfl⟩; replace H : (some ji6) = some r := by first | (rw [hji6] at H; exact H) | (simp only [hji6] at H ⊢; exact H)
    have hji6_ : (IntKind.u64.wrap (1 * 2 ^ min (ji4).toNat 64)) = ji6 := hji6; have hji6z : (ji4) ≤ 64 → (IntKind.u64.wrap (1 * 2 ^ (ji4).toNat)) = ji6 := shl_small hji6; have hji6u : (IntKind.u64.wrap (2 ^ min (ji4).toNat 64)) = ji6 := by have h_ := hji6_; rw [Int.one_mul] at h_; exact h_
    have hji6v : (ji4) ≤ 64 → (IntKind.u64.wrap (2 ^ (ji4).toNat)) = ji6 := fun hle_ => by have h_ := hji6z hle_; rw [Int.one_mul] at h_; exact h_
    obtain rfl := Option.some.inj H; go_enter Try.func89, Try.ntmps89
    go_wp2
    go_ret
    exact ⟨by first | rfl | (simp; done) | (simp only [← hji4, ← hji6] <;> (first | rfl | simp)) | (simp [*]; done), by repeat (first | exact Drawn0.refl _ | apply Drawn0.step)⟩
   ·rw [if_neg c5] at H
    exact absurd H (by simp)

/-! ### sets_Has: function 90 -/
def sets_Has.f (a0 : Int) (a1 : Int) : Option (Bool) := (sets_one.f a1).bind fun t124 => (some ((Go.bits .and .u64 a0 t124) != 0))
set_option maxHeartbeats 8000000 in
set_option maxRecDepth 100000 in
theorem sets_Has.calls (a0 : Int) (a1 : Int) (r : Bool) (w : World) (h : sets_Has.f a0 a1 = some r) :
    Calls Try.prog 90 #[.int .u64 a0, .int .i64 a1] w fun e w' => e = .returned (.bool r) ∧ Drawn0 w w' := by
  have H : ((sets_one.f a1).bind fun t124 => (some ((Go.bits .and .u64 a0 t124) != 0))) = some r := h
  clear h
  replace H := Option.bind_eq_some_iff.mp H
  obtain ⟨t124, A30, H⟩ := H
  replace H : (some ((Go.bits .and .u64 a0 t124) != 0)) = some r := H
  have A3 := Aside0.mk A30
  clear A30
  obtain rfl := Option.some.inj H
  go_enter Try.func90, Try.ntmps90
  go_wp2_with (first | ((with_reducible refine gate_callee (f := 89) rfl ?_); refine goesL_ (some 7) rfl rfl Try.func89 (by kernel_rfl) rfl #[.int .i64 a1] rfl (by (try simp only [List.map_toArray, List.map_cons, List.map_nil]); first | done | rfl | (simp only [List.length_drop, List.length_take]; rfl)) ?_; (with_reducible refine (sets_one.calls a1 t124 _ A3.out).mono ?_); rintro e w' ⟨rfl, ⟨nd, rfl⟩⟩; refine ⟨_, rfl, ?_⟩))
  go_ret
  exact ⟨by first | rfl | (simp; done) | (simp [*]; done), by repeat (first | exact Drawn0.refl _ | apply Drawn0.step)⟩

/-! ### reject_isNull: function 59 -/
def reject_isNull.f (a0_0 : Int) (a0_1 : Int) (a0_2 : Int) (a0_3 : Bool) (a0_4 : Int) (a1 : Int) : Option (Bool) := if a0_0 = 1 then ((sets_Has.f a1 a0_1).bind fun t126 => (some t126)) else (some a0_3)
set_option maxHeartbeats 8000000 in
set_option maxRecDepth 100000 in
theorem reject_isNull.calls (a0_0 : Int) (a0_1 : Int) (a0_2 : Int) (a0_3 : Bool) (a0_4 : Int) (a1 : Int) (r : Bool) (w : World) (h : reject_isNull.f a0_0 a0_1 a0_2 a0_3 a0_4 a1 = some r) :
  Calls Try.prog 59 #[.agg #[.int .i64 a0_0, .int .i64 a0_1, .int .i64 a0_2, .bool a0_3, .int .i64 a0_4], .int .u64 a1] w fun e w' => e = .returned (.bool r) ∧ Below w.heap.size w w' := by
 have hu44 := Try.underlying44; have HB := Aside0.mk (Below.refl w.heap.size w); have H : (if a0_0 = 1 then ((sets_Has.f a1 a0_1).bind fun t126 => (some t126)) else (some a0_3)) = some r := h; clear h; by_cases c3 : a0_0 = 1
 ·rw [if_pos c3] at H
  have c3b0 : (a0_0 == 1) = true := beq_iff_eq.mpr c3; have c3b1 : (a0_0 != 1) = false := bne_eq_false_iff_eq.mpr c3; clear c3; replace H := Option.bind_eq_some_iff.mp H; obtain ⟨t126, A40, H⟩ := H; replace H : (some t126) = some r := H; have A4 := Aside0.mk A40; clear A40; obtain rfl := Option.some.inj H; go_enter Try.func59, Try.ntmps59
  go_wp2_with (first | ((with_reducible refine gate_dst (N := 2) rfl ?_); refine box_event ?hg (N := 2) ?hd (cs := #[.int .i64 a0_0, .int .i64 a0_1, .int .i64 a0_2, .bool a0_3, .int .i64 a0_4]) (t := 44) ?hr ?_; (case hd => rfl); (case hg => rfl); (case hr => first | (go_simp; done) | (go_simp; rfl)); intro gb125 hg w5 hbox hb; have BK125 := Aside0.mk (hbox); have GW125 := Aside0.mk ((by rw [hg]; exact (below_size (bl_ HB.out)) : w.heap.size ≤ gb125)); replace HB := bs_ HB hb; have GE125 := GW125; clear hb hbox hg; have hcz6 := blk_cell BK125.out; have hfz6 := blk_frozen BK125.out; have hfz6_4 := blk_frozen BK125.out 4) | ((with_reducible refine gate_callee (f := 90) rfl ?_); refine goesL_ (some 11) rfl rfl Try.func90 (by kernel_rfl) rfl #[.int .u64 a1, .int .i64 a0_1] rfl (by (try simp only [List.map_toArray, List.map_cons, List.map_nil]); first | done | rfl | (simp only [List.length_drop, List.length_take]; rfl)) ?_; (with_reducible refine (sets_Has.calls a1 a0_1 t126 _ A4.out).mono ?_); rintro e w' ⟨rfl, ⟨nd, rfl⟩⟩; refine ⟨_, rfl, ?_⟩))
  go_ret
  exact ⟨rr_, bl1_ HB.out GE125.out⟩
 ·rw [if_neg c3] at H
  have c3b0 : (a0_0 == 1) = false := beq_eq_false_iff_ne.mpr c3; have c3b1 : (a0_0 != 1) = true := bne_iff_ne.mpr c3; obtain rfl := Option.some.inj H; go_enter Try.func59, Try.ntmps59
  go_wp2_with (first | ((with_reducible refine gate_dst (N := 2) rfl ?_); refine box_event ?hg (N := 2) ?hd (cs := #[.int .i64 a0_0, .int .i64 a0_1, .int .i64 a0_2, .bool a0_3, .int .i64 a0_4]) (t := 44) ?hr ?_; (case hd => rfl); (case hg => rfl); (case hr => first | (go_simp; done) | (go_simp; rfl)); intro gb125 hg w7 hbox hb; have BK125 := Aside0.mk (hbox); have GW125 := Aside0.mk ((by rw [hg]; exact (below_size (bl_ HB.out)) : w.heap.size ≤ gb125)); replace HB := bs_ HB hb; have GE125 := GW125; clear hb hbox hg; have hcz8 := blk_cell BK125.out; have hfz8 := blk_frozen BK125.out; have hfz8_4 := blk_frozen BK125.out 4))
  go_ret
  exact ⟨rr_, bl1_ HB.out GE125.out⟩

/-! ### value_side: function 96 -/
def value_side.f (a0 : Int) (a1 : Int) : Option (Int) := if a0 < a1 then (some 0) else (if a0 = a1 then (some 1) else (some 2))
set_option maxHeartbeats 8000000 in
set_option maxRecDepth 100000 in
theorem value_side.calls (a0 : Int) (a1 : Int) (r : Int) (w : World) (h : value_side.f a0 a1 = some r) :
    Calls Try.prog 96 #[.int .i64 a0, .int .i64 a1] w fun e w' => e = .returned (.int .i64 r) ∧ Drawn0 w w' := by
  have H : (if a0 < a1 then (some 0) else (if a0 = a1 then (some 1) else (some 2))) = some r := h
  clear h
  by_cases c3 : a0 < a1
  · rw [if_pos c3] at H
    have c3b0 : decide (a0 < a1) = true := decide_eq_true c3
    clear c3
    obtain rfl := Option.some.inj H
    go_enter Try.func96, Try.ntmps96
    go_wp2
    go_ret
    exact ⟨by first | rfl | (simp; done) | (simp [*]; done), by repeat (first | exact Drawn0.refl _ | apply Drawn0.step)⟩
  · rw [if_neg c3] at H
    have c3b0 : decide (a0 < a1) = false := decide_eq_false c3
    clear c3
    by_cases c4 : a0 = a1
    · rw [if_pos c4] at H
      have c4b0 : (a0 == a1) = true := beq_iff_eq.mpr c4
      have c4b1 : (a0 != a1) = false := bne_eq_false_iff_eq.mpr c4
      clear c4
      obtain rfl := Option.some.inj H
      go_enter Try.func96, Try.ntmps96
      go_wp2
      go_ret
      exact ⟨by first | rfl | (simp; done) | (simp [*]; done), by repeat (first | exact Drawn0.refl _ | apply Drawn0.step)⟩
    · rw [if_neg c4] at H
      have c4b0 : (a0 == a1) = false := beq_eq_false_iff_ne.mpr c4
      have c4b1 : (a0 != a1) = true := bne_iff_ne.mpr c4
      obtain rfl := Option.some.inj H
      go_enter Try.func96, Try.ntmps96
      go_wp2
      go_ret
      exact ⟨by first | rfl | (simp; done) | (simp [*]; done), by repeat (first | exact Drawn0.refl _ | apply Drawn0.step)⟩

/-! ### value_Compare: function 68 (by hand) -/
/-- What a comparison is: by the operator, and by how the two numbers stand (0: less, 1: equal, 2: more). -/
def value_Compare.tab (op s : Int) : Int :=
 if op = 1 then (if s = 1 then 2 else 0) else if op = 2 then (if s = 1 then 0 else 2) else if op = 3 then (if s = 0 then 2 else 0)
 else if op = 4 then (if s = 2 then 0 else 2) else if op = 5 then (if s = 2 then 2 else 0) else (if s = 0 then 0 else 2)
def value_Compare.side (a b : Int) : Int := if a < b then 0 else if a = b then 1 else 2
def value_Compare.v (a0 : Int) (a1_0 : Bool) (a1_1 : Int) (a2_0 : Bool) (a2_1 : Int) : Int :=
 if a0 < 1 ∨ a0 > 6 ∨ a1_0 = true ∨ a2_0 = true then 1 else value_Compare.tab a0 (value_Compare.side a1_1 a2_1)
def value_Compare.f (a0 : Int) (a1_0 : Bool) (a1_1 : Int) (a2_0 : Bool) (a2_1 : Int) : Option Int := some (value_Compare.v a0 a1_0 a1_1 a2_0 a2_1)
theorem value_Compare.side_f (a b : Int) : value_side.f a b = some (value_Compare.side a b) := by
 unfold value_side.f value_Compare.side
 split
 ·rfl
 ·split <;> rfl
theorem value_Compare.side_of (a b : Int) : value_Compare.side a b = 0 ∨ value_Compare.side a b = 1 ∨ value_Compare.side a b = 2 := by
 unfold value_Compare.side
 split
 ·exact .inl rfl
 ·split
  ·exact .inr (.inl rfl)
  ·exact .inr (.inr rfl)
theorem value_Compare.below_row {B g : Nat} {a w : World} (h : Below B a w) (hg : B ≤ g) (cs : Array Value) : Below B a (w.setRow g cs) :=
 h.trans ⟨rfl, rfl, rfl, by simp [World.setRow], fun k hk => by simp only [World.setRow, Array.getElem?_modify]; rw [if_neg (by omega)]⟩
theorem value_Compare.blk_row {g : Nat} {w : World} {t : TypeId} {old : Array Value} (h : w.heap[g]? = some (.cells old t (0, 0))) (cs : Array Value) : (w.setRow g cs).heap[g]? = some (.cells cs t (0, 0)) := by
 simp [World.setRow, Array.getElem?_modify, h]
theorem value_Compare.oth_row {g k : Nat} {w : World} {o : Obj} (h : w.heap[k]? = some o) (hne : k ≠ g) (cs : Array Value) : (w.setRow g cs).heap[k]? = some o := by
 simp only [World.setRow, Array.getElem?_modify]; rw [if_neg (fun e => hne e.symm)]; exact h
def value_Compare.zeros : Array Value := #[.int .i64 0, .int .i64 0, .int .i64 0, .int .i64 0, .int .i64 0, .int .i64 0, .int .i64 0, .int .i64 0, .int .i64 0, .int .i64 0, .int .i64 0, .int .i64 0, .int .i64 0, .int .i64 0, .int .i64 0, .int .i64 0, .int .i64 0, .int .i64 0, .int .i64 0, .int .i64 0, .int .i64 0]
def value_Compare.vals : Array Value := #[.int .i64 0, .int .i64 0, .int .i64 0, .int .i64 0, .int .i64 2, .int .i64 0, .int .i64 2, .int .i64 0, .int .i64 2, .int .i64 2, .int .i64 0, .int .i64 0, .int .i64 2, .int .i64 2, .int .i64 0, .int .i64 0, .int .i64 0, .int .i64 2, .int .i64 0, .int .i64 2, .int .i64 2]
theorem value_Compare.vals_one : value_Compare.vals.all (·.oneCell') = true := by kernel_rfl
set_option maxHeartbeats 1600000 in
set_option maxRecDepth 100000 in
theorem value_Compare.calls (a0 : Int) (a1_0 : Bool) (a1_1 : Int) (a2_0 : Bool) (a2_1 : Int) (r : Int) (w : World) (h : value_Compare.f a0 a1_0 a1_1 a2_0 a2_1 = some r) :
  Calls Try.prog 68 #[.int .i64 a0, .agg #[.bool a1_0, .int .i64 a1_1], .agg #[.bool a2_0, .int .i64 a2_1]] w fun e w' => e = .returned (.int .i64 r) ∧ Below w.heap.size w w' := by
 obtain rfl := Option.some.inj h; clear h; obtain ⟨rv, hrv⟩ : ∃ x, value_Compare.v a0 a1_0 a1_1 a2_0 a2_1 = x := ⟨_, rfl⟩; rw [hrv]; have hu2 := Try.underlying42; have hi4 : (Try.prog.info? 104).map (·.size) = some 21 := by kernel_rfl
 go_enter Try.func68, Try.ntmps68
 go_upto_region 2 with (first
  | ((with_reducible refine gate_dst (N := 4) rfl ?_); refine box_event ?hg (N := 4) ?hd (cs := #[.bool a1_0, .int .i64 a1_1]) (t := 42) ?hr ?_; (case hd => rfl); (case hg => rfl); (case hr => first | (go_simp; done) | (go_simp; rfl)); intro g1 hg1 w1 hb1 HB; clear hg1)
  | ((with_reducible refine gate_dst (N := 5) rfl ?_); refine box_event ?hg (N := 5) ?hd (cs := #[.bool a2_0, .int .i64 a2_1]) (t := 42) ?hr ?_; (case hd => rfl); (case hg => rfl); (case hr => first | (go_simp; done) | (go_simp; rfl)); intro g2 hg2 w2 hb2 hB2; replace hb1 := blk_below hb1 hB2; replace HB := below_step HB hB2; clear hg2 hB2)
  | ((with_reducible refine gate_dst (N := 7) rfl ?_); refine box_event ?hg (N := 7) ?hd (cs := value_Compare.zeros) (t := 104) ?hr ?_; (case hd => rfl); (case hg => rfl); (case hr => first | (go_simp; done) | (go_simp; rfl)); intro g3 hg3 w3 hb3 hB3; have hge : w.heap.size ≤ g3 := (by rw [hg3]; exact below_size HB); replace hb1 := blk_below hb1 hB3; replace hb2 := blk_below hb2 hB3; replace HB := below_step HB hB3; clear hg3 hB3)
  | ((with_reducible refine gate_store (t := 104) (p := 7) rfl ?_); refine wpList_store_row rfl 104 (.tmp 7) (.tmp 14) rfl g3 value_Compare.vals rfl rfl 104 value_Compare.zeros hb3 hi4 rfl value_Compare.vals_one ?_; have hG := value_Compare.blk_row hb3 value_Compare.vals; replace hb1 := value_Compare.oth_row hb1 (blk_ne hb1 hb3 (by decide)) value_Compare.vals; replace hb2 := value_Compare.oth_row hb2 (blk_ne hb2 hb3 (by decide)) value_Compare.vals; replace HB := value_Compare.below_row HB hge value_Compare.vals; clear hb3; generalize w3.setRow g3 value_Compare.vals = W at *))
 have hc0 : W.cell? ⟨g3, 0, none⟩ = some (.int .i64 0) := (blk_cell hG 0).trans rfl; have hz0 := blk_frozen hG 0; have hc1 : W.cell? ⟨g3, 1, none⟩ = some (.int .i64 0) := (blk_cell hG 1).trans rfl; have hz1 := blk_frozen hG 1; have hc2 : W.cell? ⟨g3, 2, none⟩ = some (.int .i64 0) := (blk_cell hG 2).trans rfl; have hz2 := blk_frozen hG 2; have hc3 : W.cell? ⟨g3, 3, none⟩ = some (.int .i64 0) := (blk_cell hG 3).trans rfl; have hz3 := blk_frozen hG 3; have hc4 : W.cell? ⟨g3, 4, none⟩ = some (.int .i64 2) := (blk_cell hG 4).trans rfl; have hz4 := blk_frozen hG 4; have hc5 : W.cell? ⟨g3, 5, none⟩ = some (.int .i64 0) := (blk_cell hG 5).trans rfl; have hz5 := blk_frozen hG 5; have hc6 : W.cell? ⟨g3, 6, none⟩ = some (.int .i64 2) := (blk_cell hG 6).trans rfl; have hz6 := blk_frozen hG 6; have hc7 : W.cell? ⟨g3, 7, none⟩ = some (.int .i64 0) := (blk_cell hG 7).trans rfl; have hz7 := blk_frozen hG 7; have hc8 : W.cell? ⟨g3, 8, none⟩ = some (.int .i64 2) := (blk_cell hG 8).trans rfl; have hz8 := blk_frozen hG 8; have hc9 : W.cell? ⟨g3, 9, none⟩ = some (.int .i64 2) := (blk_cell hG 9).trans rfl; have hz9 := blk_frozen hG 9; have hc10 : W.cell? ⟨g3, 10, none⟩ = some (.int .i64 0) := (blk_cell hG 10).trans rfl; have hz10 := blk_frozen hG 10; have hc11 : W.cell? ⟨g3, 11, none⟩ = some (.int .i64 0) := (blk_cell hG 11).trans rfl; have hz11 := blk_frozen hG 11; have hc12 : W.cell? ⟨g3, 12, none⟩ = some (.int .i64 2) := (blk_cell hG 12).trans rfl; have hz12 := blk_frozen hG 12; have hc13 : W.cell? ⟨g3, 13, none⟩ = some (.int .i64 2) := (blk_cell hG 13).trans rfl; have hz13 := blk_frozen hG 13; have hc14 : W.cell? ⟨g3, 14, none⟩ = some (.int .i64 0) := (blk_cell hG 14).trans rfl; have hz14 := blk_frozen hG 14; have hc15 : W.cell? ⟨g3, 15, none⟩ = some (.int .i64 0) := (blk_cell hG 15).trans rfl; have hz15 := blk_frozen hG 15; have hc16 : W.cell? ⟨g3, 16, none⟩ = some (.int .i64 0) := (blk_cell hG 16).trans rfl; have hz16 := blk_frozen hG 16; have hc17 : W.cell? ⟨g3, 17, none⟩ = some (.int .i64 2) := (blk_cell hG 17).trans rfl
 have hz17 := blk_frozen hG 17; have hc18 : W.cell? ⟨g3, 18, none⟩ = some (.int .i64 0) := (blk_cell hG 18).trans rfl; have hz18 := blk_frozen hG 18; have hc19 : W.cell? ⟨g3, 19, none⟩ = some (.int .i64 2) := (blk_cell hG 19).trans rfl; have hz19 := blk_frozen hG 19; have hc20 : W.cell? ⟨g3, 20, none⟩ = some (.int .i64 2) := (blk_cell hG 20).trans rfl; have hz20 := blk_frozen hG 20; have hx0 : W.cell? ⟨g1, 0, none⟩ = some (.bool a1_0) := (blk_cell hb1 0).trans rfl; have hx1 : W.cell? ⟨g1, 1, none⟩ = some (.int .i64 a1_1) := (blk_cell hb1 1).trans rfl; have hx2 := blk_frozen hb1 0; have hx3 := blk_frozen hb1 1; have hy0 : W.cell? ⟨g2, 0, none⟩ = some (.bool a2_0) := (blk_cell hb2 0).trans rfl; have hy1 : W.cell? ⟨g2, 1, none⟩ = some (.int .i64 a2_1) := (blk_cell hb2 1).trans rfl; have hy2 := blk_frozen hb2 0; have hy3 := blk_frozen hb2 1; clear hG hb1 hb2; by_cases h1 : a0 < 1
 ·go_wp2
  go_ret
  exact ⟨by rw [← hrv]; simp [value_Compare.v, h1], by repeat (first | exact HB | apply pw_below_drewN | apply below_drew1)⟩
 ·by_cases h2 : 6 < a0
  ·go_wp2
   go_ret
   exact ⟨by rw [← hrv]; simp [value_Compare.v, h2], by repeat (first | exact HB | apply pw_below_drewN | apply below_drew1)⟩
  ·cases a1_0 with
   | true =>
    go_wp2
    go_ret
    exact ⟨by rw [← hrv]; simp [value_Compare.v], by repeat (first | exact HB | apply pw_below_drewN | apply below_drew1)⟩
   | false =>
    cases a2_0 with
    | true =>
     go_wp2
     go_ret
     exact ⟨by rw [← hrv]; simp [value_Compare.v], by repeat (first | exact HB | apply pw_below_drewN | apply below_drew1)⟩
    | false =>
     have hv : value_Compare.v a0 false a1_1 false a2_1 = value_Compare.tab a0 (value_Compare.side a1_1 a2_1) := by
      unfold value_Compare.v
      rw [if_neg (by simp; omega)]
     rw [hv] at hrv; clear hv; obtain ⟨s, hs⟩ : ∃ s, value_Compare.side a1_1 a2_1 = s := ⟨_, rfl⟩; have hf := value_Compare.side_f a1_1 a2_1; have h3 := value_Compare.side_of a1_1 a2_1; rw [hs] at hf h3 hrv; clear hs; have ha : a0 = 1 ∨ a0 = 2 ∨ a0 = 3 ∨ a0 = 4 ∨ a0 = 5 ∨ a0 = 6 := by omega
     clear h1 h2; have hu3 := Try.underlying103; have hu4 := Try.underlying104; rcases ha with rfl | rfl | rfl | rfl | rfl | rfl <;> rcases h3 with rfl | rfl | rfl
     all_goals go_wp2_with (first | (go_at_call 96; (with_reducible refine (value_side.calls a1_1 a2_1 _ _ hf).mono ?_); rintro e w' ⟨rfl, ⟨nd, rfl⟩⟩; (try first | exact ⟨rfl, _, World.drewN_drewN _ _ _⟩ | exact ⟨rfl, _, Eq.trans (World.drewN_drewN _ _ _) (congrArg (World.drewN _) (Nat.add_assoc _ _ _))⟩)))
     all_goals repeat (go_quiet (first | (go_at_call 96; (with_reducible refine (value_side.calls a1_1 a2_1 _ _ hf).mono ?_); rintro e w' ⟨rfl, ⟨nd, rfl⟩⟩; (try first | exact ⟨rfl, _, World.drewN_drewN _ _ _⟩ | exact ⟨rfl, _, Eq.trans (World.drewN_drewN _ _ _) (congrArg (World.drewN _) (Nat.add_assoc _ _ _))⟩))))
     all_goals try go_wp2
     all_goals go_ret
     all_goals exact ⟨by rw [← hrv]; simp [value_Compare.tab], by repeat (first | exact HB | apply pw_below_drewN | apply below_drew1)⟩

/-! ### reject_compares: function 58 -/
mutual
def reject_compares.j0 : Nat → Bool → Int → Int → Int → Int → Int → Int → Bool → Int → Int → Int → Int → Bool → Int → List (S46) → Option (Bool × Bool × Bool)
 | 0, _, _, _, _, _, _, _, _, _, _, _, _, _, _, _ => none
 | k + 1, x5, x128000, x128001, x128002, x128003, x128004, x128005, x128006, x128007, x128008, x128009, x128010, x128011, x128012, x128013 => if x5 = true then ((reject_only.f k 1).bind fun bt131 => (some (bt131.1, bt131.2.1, bt131.2.2))) else (if x128003 = 1 then (reject_compares.j1 k false x128000 x128001 x128002 x128003 x128004 x128005 x128006 x128007 x128008 x128009 x128010 x128011 x128012 x128013) else (reject_compares.j1 k (x128008 != 1) x128000 x128001 x128002 x128003 x128004 x128005 x128006 x128007 x128008 x128009 x128010 x128011 x128012 x128013))
def reject_compares.j1 : Nat → Bool → Int → Int → Int → Int → Int → Int → Bool → Int → Int → Int → Int → Bool → Int → List (S46) → Option (Bool × Bool × Bool)
 | 0, _, _, _, _, _, _, _, _, _, _, _, _, _, _, _ => none
 | k + 1, x27, x128000, x128001, x128002, x128003, x128004, x128005, x128006, x128007, x128008, x128009, x128010, x128011, x128012, x128013 => if x27 = true then ((value_Compare.f x128002 x128006 x128007 x128011 x128012).bind fun t134 => ((reject_only.f k t134).bind fun bt135 => (some (bt135.1, bt135.2.1, bt135.2.2)))) else (some (true, true, true))
end
def reject_compares.f (k : Nat) (a0_0 : Int) (a0_1 : Int) (a0_2 : Int) (a0_3 : Int) (a0_4 : Int) (a0_5 : Int) (a0_6 : Bool) (a0_7 : Int) (a0_8 : Int) (a0_9 : Int) (a0_10 : Int) (a0_11 : Bool) (a0_12 : Int) (l0_13 : List (S46)) (a1 : Int) : Option (Bool × Bool × Bool) := if a0_2 < 1 then (reject_compares.j0 k true a0_0 a0_1 a0_2 a0_3 a0_4 a0_5 a0_6 a0_7 a0_8 a0_9 a0_10 a0_11 a0_12 l0_13) else (if a0_2 > 6 then (reject_compares.j0 k true a0_0 a0_1 a0_2 a0_3 a0_4 a0_5 a0_6 a0_7 a0_8 a0_9 a0_10 a0_11 a0_12 l0_13) else ((reject_isNull.f a0_3 a0_4 a0_5 a0_6 a0_7 a1).bind fun t129 => (if t129 = true then (reject_compares.j0 k true a0_0 a0_1 a0_2 a0_3 a0_4 a0_5 a0_6 a0_7 a0_8 a0_9 a0_10 a0_11 a0_12 l0_13) else ((reject_isNull.f a0_8 a0_9 a0_10 a0_11 a0_12 a1).bind fun t130 => (reject_compares.j0 k t130 a0_0 a0_1 a0_2 a0_3 a0_4 a0_5 a0_6 a0_7 a0_8 a0_9 a0_10 a0_11 a0_12 l0_13)))))
theorem reject_compares.mono_l : ∀ k, (∀ y0 y1 y2 y3 y4 y5 y6 y7 y8 y9 y10 y11 y12 y13 y14, LeO (reject_compares.j0 k y0 y1 y2 y3 y4 y5 y6 y7 y8 y9 y10 y11 y12 y13 y14) (reject_compares.j0 (k + 1) y0 y1 y2 y3 y4 y5 y6 y7 y8 y9 y10 y11 y12 y13 y14)) ∧ (∀ y0 y1 y2 y3 y4 y5 y6 y7 y8 y9 y10 y11 y12 y13 y14, LeO (reject_compares.j1 k y0 y1 y2 y3 y4 y5 y6 y7 y8 y9 y10 y11 y12 y13 y14) (reject_compares.j1 (k + 1) y0 y1 y2 y3 y4 y5 y6 y7 y8 y9 y10 y11 y12 y13 y14))
 | 0 => ⟨fun _ _ _ _ _ _ _ _ _ _ _ _ _ _ _ r h => by simp [reject_compares.j0] at h, fun _ _ _ _ _ _ _ _ _ _ _ _ _ _ _ r h => by simp [reject_compares.j1] at h⟩
 | k + 1 => by
  obtain ⟨ih0, ih1⟩ := reject_compares.mono_l k; refine ⟨?_, ?_⟩
  ·intro y0 y1 y2 y3 y4 y5 y6 y7 y8 y9 y10 y11 y12 y13 y14
   unfold reject_compares.j0
   repeat' first
   | (with_reducible exact ih0 _ _ _ _ _ _ _ _ _ _ _ _ _ _ _)
   | (with_reducible exact ih1 _ _ _ _ _ _ _ _ _ _ _ _ _ _ _)
   | (with_reducible exact reject_only.mono _ _)
   | (with_reducible exact LeO.refl _)
   | (with_reducible exact LeO.none _)
   | (with_reducible refine LeO.ite ?_ ?_)
   | (with_reducible refine LeO.bind ?_ (fun _ => ?_))
   | exact ih0 _ _ _ _ _ _ _ _ _ _ _ _ _ _ _
   | exact ih1 _ _ _ _ _ _ _ _ _ _ _ _ _ _ _
   | exact reject_only.mono _ _
   | exact LeO.none _
   | refine LeO.ite ?_ ?_
   | refine LeO.bind ?_ (fun _ => ?_)
  ·intro y0 y1 y2 y3 y4 y5 y6 y7 y8 y9 y10 y11 y12 y13 y14
   unfold reject_compares.j1
   repeat' first
   | (with_reducible exact ih0 _ _ _ _ _ _ _ _ _ _ _ _ _ _ _)
   | (with_reducible exact ih1 _ _ _ _ _ _ _ _ _ _ _ _ _ _ _)
   | (with_reducible exact reject_only.mono _ _)
   | (with_reducible exact LeO.refl _)
   | (with_reducible exact LeO.none _)
   | (with_reducible refine LeO.ite ?_ ?_)
   | (with_reducible refine LeO.bind ?_ (fun _ => ?_))
   | exact ih0 _ _ _ _ _ _ _ _ _ _ _ _ _ _ _
   | exact ih1 _ _ _ _ _ _ _ _ _ _ _ _ _ _ _
   | exact reject_only.mono _ _
   | exact LeO.none _
   | refine LeO.ite ?_ ?_
   | refine LeO.bind ?_ (fun _ => ?_)
theorem reject_compares.mono : ∀ a0 a1 a2 a3 a4 a5 a6 a7 a8 a9 a10 a11 a12 a13 a14 k, LeO (reject_compares.f k a0 a1 a2 a3 a4 a5 a6 a7 a8 a9 a10 a11 a12 a13 a14) (reject_compares.f (k + 1) a0 a1 a2 a3 a4 a5 a6 a7 a8 a9 a10 a11 a12 a13 a14) := by
 intro a0 a1 a2 a3 a4 a5 a6 a7 a8 a9 a10 a11 a12 a13 a14 k; obtain ⟨ih0, ih1⟩ := reject_compares.mono_l k; unfold reject_compares.f
 repeat' first
   | (with_reducible exact ih0 _ _ _ _ _ _ _ _ _ _ _ _ _ _ _)
   | (with_reducible exact ih1 _ _ _ _ _ _ _ _ _ _ _ _ _ _ _)
   | (with_reducible exact reject_only.mono _ _)
   | (with_reducible exact LeO.refl _)
   | (with_reducible exact LeO.none _)
   | (with_reducible refine LeO.ite ?_ ?_)
   | (with_reducible refine LeO.bind ?_ (fun _ => ?_))
   | exact ih0 _ _ _ _ _ _ _ _ _ _ _ _ _ _ _
   | exact ih1 _ _ _ _ _ _ _ _ _ _ _ _ _ _ _
   | exact reject_only.mono _ _
   | exact LeO.none _
   | refine LeO.ite ?_ ?_
   | refine LeO.bind ?_ (fun _ => ?_)
set_option maxHeartbeats 8000000 in
set_option maxRecDepth 100000 in
theorem reject_compares.calls (k : Nat) (a0_0 : Int) (a0_1 : Int) (a0_2 : Int) (a0_3 : Int) (a0_4 : Int) (a0_5 : Int) (a0_6 : Bool) (a0_7 : Int) (a0_8 : Int) (a0_9 : Int) (a0_10 : Int) (a0_11 : Bool) (a0_12 : Int) (A0_13 : Option Addr) (c0_13 : Nat) (l0_13 : List (S46)) (a1 : Int) (r1 : Bool) (r2 : Bool) (r3 : Bool) (w : World) (hr0_13 : Kd.C k46 w A0_13 l0_13.length l0_13) (hc0_13 : l0_13.length ≤ c0_13) (h : reject_compares.f k a0_0 a0_1 a0_2 a0_3 a0_4 a0_5 a0_6 a0_7 a0_8 a0_9 a0_10 a0_11 a0_12 l0_13 a1 = some (r1, r2, r3)) :
  Calls Try.prog 58 #[.agg #[.int .i64 a0_0, .int .i64 a0_1, .int .i64 a0_2, .int .i64 a0_3, .int .i64 a0_4, .int .i64 a0_5, .bool a0_6, .int .i64 a0_7, .int .i64 a0_8, .int .i64 a0_9, .int .i64 a0_10, .bool a0_11, .int .i64 a0_12, .slice A0_13 l0_13.length c0_13], .int .u64 a1] w fun e w' => e = .returned (.agg #[.bool r1, .bool r2, .bool r3]) ∧ Below w.heap.size w w' := by
 have hu46 := Try.underlying46; have hu39 := Try.underlying39; have hu44 := Try.underlying44; have hu42 := Try.underlying42; have HR0_13 := Aside0.mk hr0_13; have HC0_13 := Aside0.mk hc0_13; clear hr0_13 hc0_13; have HB := Aside0.mk (Below.refl w.heap.size w); have H : (if a0_2 < 1 then (reject_compares.j0 k true a0_0 a0_1 a0_2 a0_3 a0_4 a0_5 a0_6 a0_7 a0_8 a0_9 a0_10 a0_11 a0_12 l0_13) else (if a0_2 > 6 then (reject_compares.j0 k true a0_0 a0_1 a0_2 a0_3 a0_4 a0_5 a0_6 a0_7 a0_8 a0_9 a0_10 a0_11 a0_12 l0_13) else ((reject_isNull.f a0_3 a0_4 a0_5 a0_6 a0_7 a1).bind fun t129 => (if t129 = true then (reject_compares.j0 k true a0_0 a0_1 a0_2 a0_3 a0_4 a0_5 a0_6 a0_7 a0_8 a0_9 a0_10 a0_11 a0_12 l0_13) else ((reject_isNull.f a0_8 a0_9 a0_10 a0_11 a0_12 a1).bind fun t130 => (reject_compares.j0 k t130 a0_0 a0_1 a0_2 a0_3 a0_4 a0_5 a0_6 a0_7 a0_8 a0_9 a0_10 a0_11 a0_12 l0_13)))))) = some (r1, r2, r3) := h; clear h; have HC3 := Aside0.mk H; clear H; go_enter Try.func58, Try.ntmps58
 go_upto_region 1 with (first | ((with_reducible refine gate_dst (N := 2) rfl ?_); refine box_event ?hg (N := 2) ?hd (cs := #[.int .i64 a0_0, .int .i64 a0_1, .int .i64 a0_2, .int .i64 a0_3, .int .i64 a0_4, .int .i64 a0_5, .bool a0_6, .int .i64 a0_7, .int .i64 a0_8, .int .i64 a0_9, .int .i64 a0_10, .bool a0_11, .int .i64 a0_12, .slice A0_13 l0_13.length c0_13]) (t := 46) ?hr ?_; (case hd => rfl); (case hg => rfl); (case hr => first | (go_simp; done) | (go_simp; rfl)); intro gb127 hg w4 hbox hb; have BK127 := Aside0.mk (hbox); have GW127 := Aside0.mk ((by rw [hg]; exact (below_size (bl_ HB.out)) : w.heap.size ≤ gb127)); replace HB := bs_ HB hb; have GE127 := GW127; clear hb hbox hg) | ((with_reducible refine gate_dst (N := 4) rfl ?_); refine box_event ?hg (N := 4) ?hd (cs := #[.bool false, .bool false, .bool false]) (t := 39) ?hr ?_; (case hd => rfl); (case hg => rfl); (case hr => first | (go_simp; done) | (go_simp; rfl)); intro gb128 hg w5 hbox hb; have BK128 := Aside0.mk (hbox); have GW128 := Aside0.mk ((by rw [hg]; exact (below_size (bl1_ HB.out GE127.out)) : w.heap.size ≤ gb128)); replace HB := bs1_ HB GE127 hb; have GE128 := GW128; have NB127_128 := Aside0.mk ((by rw [hg]; exact Nat.ne_of_lt (blk_lt (bk_ BK127.out)) : gb127 ≠ gb128)); have NB128_127 := Aside0.mk ((by rw [hg]; exact Nat.ne_of_gt (blk_lt (bk_ BK127.out)) : gb128 ≠ gb127)); replace BK127 := bb_ BK127 hb; clear hb hbox hg))
 (try simp only [Act.put, List.setIfInBounds_toArray, List.set_cons_zero, List.set_cons_succ]); go_cut [5] (fun v5 wc => ∃ (kq : Nat) (x5_2 : Bool), v5 = .bool x5_2 ∧ Aside0 (reject_compares.j0 kq x5_2 a0_0 a0_1 a0_2 a0_3 a0_4 a0_5 a0_6 a0_7 a0_8 a0_9 a0_10 a0_11 a0_12 l0_13 = some (r1, r2, r3)) ∧ Aside0 (kq ≤ k) ∧ Aside0 (wc.heap[gb127]? = some (.cells #[.int .i64 a0_0, .int .i64 a0_1, .int .i64 a0_2, .int .i64 a0_3, .int .i64 a0_4, .int .i64 a0_5, .bool a0_6, .int .i64 a0_7, .int .i64 a0_8, .int .i64 a0_9, .int .i64 a0_10, .bool a0_11, .int .i64 a0_12, (.slice A0_13 l0_13.length c0_13)] 46 (0, 0))) ∧ Aside0 (wc.heap[gb128]? = some (.cells #[.bool false, .bool false, .bool false] 39 (0, 0))) ∧ Aside0 (Below w.heap.size w wc))
 case first =>
  have H := HC3.out; clear HC3; by_cases c6 : a0_2 < 1
  ·rw [if_pos c6] at H
   have c6b0 : decide (a0_2 < 1) = true := decide_eq_true c6; clear c6; (first | rw [c6b0] | (simp only [i64_w, i32_w]; rw [c6b0]) | skip); have H' := Aside0.mk H; clear H; have hnb7 := NB127_128.out; have hnc7 := NB128_127.out; have hcz8 := blk_cell BK127.out; have hfz8 := blk_frozen BK127.out; go_wp2; go_meet
   case rel => exact ⟨_, (true), (by first | rfl | (simp; done) | (simp [*]; done) | (simp; decide)), H', ⟨by first | omega | exact Nat.le_refl _⟩, ⟨bk_ BK127.out⟩, ⟨bk_ BK128.out⟩, ⟨bl2_ HB.out GE127.out GE128.out⟩⟩
  ·rw [if_neg c6] at H
   have c6b0 : decide (a0_2 < 1) = false := decide_eq_false c6; clear c6; (first | rw [c6b0] | (simp only [i64_w, i32_w]; rw [c6b0]) | skip); by_cases c9 : a0_2 > 6
   ·rw [if_pos c9] at H
    have c9b0 : decide (6 < a0_2) = true := decide_eq_true c9; clear c9; have H' := Aside0.mk H; clear H; have hnb10 := NB127_128.out; have hnc10 := NB128_127.out; have hcz11 := blk_cell BK127.out; have hfz11 := blk_frozen BK127.out; go_wp2; go_meet
    case rel => exact ⟨_, (true), (by first | rfl | (simp; done) | (simp [*]; done) | (simp; decide)), H', ⟨by first | omega | exact Nat.le_refl _⟩, ⟨bk_ BK127.out⟩, ⟨bk_ BK128.out⟩, ⟨bl2_ HB.out GE127.out GE128.out⟩⟩
   ·rw [if_neg c9] at H
    have c9b0 : decide (6 < a0_2) = false := decide_eq_false c9; clear c9; replace H := Option.bind_eq_some_iff.mp H; obtain ⟨t129, A120, H⟩ := H; replace H : (if t129 = true then (reject_compares.j0 k true a0_0 a0_1 a0_2 a0_3 a0_4 a0_5 a0_6 a0_7 a0_8 a0_9 a0_10 a0_11 a0_12 l0_13) else ((reject_isNull.f a0_8 a0_9 a0_10 a0_11 a0_12 a1).bind fun t130 => (reject_compares.j0 k t130 a0_0 a0_1 a0_2 a0_3 a0_4 a0_5 a0_6 a0_7 a0_8 a0_9 a0_10 a0_11 a0_12 l0_13))) = some (r1, r2, r3) := H; have A12 := Aside0.mk A120; clear A120; by_cases c13 : t129 = true
    ·subst c13
     have H1 : (reject_compares.j0 k true a0_0 a0_1 a0_2 a0_3 a0_4 a0_5 a0_6 a0_7 a0_8 a0_9 a0_10 a0_11 a0_12 l0_13) = some (r1, r2, r3) := by rw [if_pos rfl] at H; exact H
     clear H; have H := H1; clear H1; have H' := Aside0.mk H; clear H; have hnb14 := NB127_128.out; have hnc14 := NB128_127.out; have hcz15 := blk_cell BK127.out; have hfz15 := blk_frozen BK127.out; go_wp2_with (first | (go_at_call 59; (with_reducible refine (reject_isNull.calls a0_3 a0_4 a0_5 a0_6 a0_7 a1 true _ A12.out).mono ?_); rintro e w16 ⟨rfl, hb⟩; replace BK127 := bb_ BK127 hb; replace BK128 := bb_ BK128 hb; replace HB := bs2_ HB GE127 GE128 hb; (try clear hb))); go_meet
     case rel => exact ⟨_, (true), (by first | rfl | (simp; done) | (simp [*]; done) | (simp; decide)), H', ⟨by first | omega | exact Nat.le_refl _⟩, ⟨bk_ BK127.out⟩, ⟨bk_ BK128.out⟩, ⟨bl2_ HB.out GE127.out GE128.out⟩⟩
    ·replace c13 := Bool.eq_false_iff.mpr c13
     subst c13; have H1 : ((reject_isNull.f a0_8 a0_9 a0_10 a0_11 a0_12 a1).bind fun t130 => (reject_compares.j0 k t130 a0_0 a0_1 a0_2 a0_3 a0_4 a0_5 a0_6 a0_7 a0_8 a0_9 a0_10 a0_11 a0_12 l0_13)) = some (r1, r2, r3) := by rw [if_neg (show ¬ (false = true) by decide)] at H; exact H
     clear H; have H := H1; clear H1; replace H := Option.bind_eq_some_iff.mp H; obtain ⟨t130, A170, H⟩ := H; replace H : (reject_compares.j0 k t130 a0_0 a0_1 a0_2 a0_3 a0_4 a0_5 a0_6 a0_7 a0_8 a0_9 a0_10 a0_11 a0_12 l0_13) = some (r1, r2, r3) := H; have A17 := Aside0.mk A170; clear A170; have H' := Aside0.mk H; clear H; have hnb18 := NB127_128.out; have hnc18 := NB128_127.out; have hcz19 := blk_cell BK127.out; have hfz19 := blk_frozen BK127.out; go_wp2_with (first | (go_at_call 59; (with_reducible refine (reject_isNull.calls a0_3 a0_4 a0_5 a0_6 a0_7 a1 false _ A12.out).mono ?_); rintro e w20 ⟨rfl, hb⟩; replace BK127 := bb_ BK127 hb; replace BK128 := bb_ BK128 hb; replace HB := bs2_ HB GE127 GE128 hb; (try clear hb); have hcz21 := blk_cell BK127.out; have hfz21 := blk_frozen BK127.out; have hfz21_13 := blk_frozen BK127.out 13) | (go_at_call 59; (with_reducible refine (reject_isNull.calls a0_8 a0_9 a0_10 a0_11 a0_12 a1 t130 _ A17.out).mono ?_); rintro e w22 ⟨rfl, hb⟩; replace BK127 := bb_ BK127 hb; replace BK128 := bb_ BK128 hb; replace HB := bs2_ HB GE127 GE128 hb; (try clear hb))); go_meet
     case rel => exact ⟨_, (t130), (by first | rfl | (simp; done) | (simp [*]; done) | (simp; decide)), H', ⟨by first | omega | exact Nat.le_refl _⟩, ⟨bk_ BK127.out⟩, ⟨bk_ BK128.out⟩, ⟨bl2_ HB.out GE127.out GE128.out⟩⟩
 case rest =>
  clear HC3; try clear c1
  try clear p2
  try clear c5
  try clear c6
  try clear c6b0
  try clear c7
  try clear c9
  try clear c9b0
  try clear c10
  try clear c13
  try clear c14
  try clear c18
  try clear hcz11
  try clear hcz15
  try clear hcz19
  try clear hcz21
  try clear hcz8
  try clear hfz11
  try clear hfz15
  try clear hfz19
  try clear hfz21
  try clear hfz21_13
  try clear hfz21
  try clear hfz8
  obtain ⟨kq, x5_2, rfl, HA, HJ2, BK127, BK128, HB⟩ := hcut; cases kq with
  | zero => exact absurd HA.out (by simp [reject_compares.j0])
  | succ kj2 =>
   have H := HA.out; clear HA; simp only [reject_compares.j0] at H; by_cases c23 : x5_2 = true
   ·subst c23
    have H1 : ((reject_only.f kj2 1).bind fun bt131 => (some (bt131.1, bt131.2.1, bt131.2.2))) = some (r1, r2, r3) := by rw [if_pos rfl] at H; exact H
    clear H; have H := H1; clear H1; replace H := Option.bind_eq_some_iff.mp H; obtain ⟨⟨t131, t132, t133⟩, A240, H⟩ := H; replace H : (some (t131, t132, t133)) = some (r1, r2, r3) := H; have A24 := Aside0.mk A240; clear A240; simp only [Option.some.injEq, Prod.mk.injEq] at H; obtain ⟨rfl, rfl, rfl⟩ := H; go_wp2_with (first | ((with_reducible refine gate_callee (f := 57) rfl ?_); refine goesL_ (some 26) rfl rfl Try.func57 (by kernel_rfl) rfl #[.int .i64 1] rfl (by (try simp only [List.map_toArray, List.map_cons, List.map_nil]); first | done | rfl | (simp only [List.length_drop, List.length_take]; rfl)) ?_; (with_reducible refine (reject_only.calls kj2 1 t131 t132 t133 _ A24.out).mono ?_); rintro e w25 ⟨rfl, hb⟩; refine ⟨_, rfl, ?_⟩; replace BK127 := bb_ BK127 hb; replace BK128 := bb_ BK128 hb; replace HB := bs2_ HB GE127 GE128 hb; (try clear hb); have hnb26 := NB128_127.out; have hnc26 := NB127_128.out; have hcz27 := blk_cell BK128.out; have hfz27_0 := blk_frozen BK128.out 0; have hfz27_1 := blk_frozen BK128.out 1; have hfz27_2 := blk_frozen BK128.out 2)); refine bodyPost_ret (results_cell_row rfl _ _ gb128 39 #[.bool t131, .bool t132, .bool t133] (0, 0) _ rfl (by (with_reducible repeat (first | refine blk_drewN ?_ _ | refine blk_drew ?_ | refine blk_alloc ?_ _)); refine blk_put (cs := #[.bool t131, .bool t132, .bool false]) ?_ 2 _ rfl; (with_reducible repeat (first | refine blk_drewN ?_ _ | refine blk_drew ?_ | refine blk_alloc ?_ _)); refine blk_put (cs := #[.bool t131, .bool false, .bool false]) ?_ 1 _ rfl; (with_reducible repeat (first | refine blk_drewN ?_ _ | refine blk_drew ?_ | refine blk_alloc ?_ _)); refine blk_put (cs := #[.bool false, .bool false, .bool false]) ?_ 0 _ rfl; (with_reducible repeat (first | refine blk_drewN ?_ _ | refine blk_drew ?_ | refine blk_alloc ?_ _)); exact BK128.out) Try.underlying39 rfl (by kernel_rfl)) rfl ?_; exact ⟨rr_, bl2_ HB.out GE127.out GE128.out⟩
   ·replace c23 := Bool.eq_false_iff.mpr c23
    subst c23; have H1 : (if a0_3 = 1 then (reject_compares.j1 kj2 false a0_0 a0_1 a0_2 a0_3 a0_4 a0_5 a0_6 a0_7 a0_8 a0_9 a0_10 a0_11 a0_12 l0_13) else (reject_compares.j1 kj2 (a0_8 != 1) a0_0 a0_1 a0_2 a0_3 a0_4 a0_5 a0_6 a0_7 a0_8 a0_9 a0_10 a0_11 a0_12 l0_13)) = some (r1, r2, r3) := by rw [if_neg (show ¬ (false = true) by decide)] at H; exact H
    clear H; have H := H1; clear H1; have HC28 := Aside0.mk H; clear H; go_upto_region 3 with (fail)
    go_cut [27] (fun v27 wc => ∃ (kq : Nat) (x27_27 : Bool), v27 = .bool x27_27 ∧ Aside0 (reject_compares.j1 kq x27_27 a0_0 a0_1 a0_2 a0_3 a0_4 a0_5 a0_6 a0_7 a0_8 a0_9 a0_10 a0_11 a0_12 l0_13 = some (r1, r2, r3)) ∧ Aside0 (kq ≤ kj2) ∧ Aside0 (wc.heap[gb127]? = some (.cells #[.int .i64 a0_0, .int .i64 a0_1, .int .i64 a0_2, .int .i64 a0_3, .int .i64 a0_4, .int .i64 a0_5, .bool a0_6, .int .i64 a0_7, .int .i64 a0_8, .int .i64 a0_9, .int .i64 a0_10, .bool a0_11, .int .i64 a0_12, (.slice A0_13 l0_13.length c0_13)] 46 (0, 0))) ∧ Aside0 (wc.heap[gb128]? = some (.cells #[.bool false, .bool false, .bool false] 39 (0, 0))) ∧ Aside0 (Below w.heap.size w wc))
    case first =>
     have H := HC28.out; clear HC28; by_cases c29 : a0_3 = 1
     ·rw [if_pos c29] at H
      have c29b0 : (a0_3 == 1) = true := beq_iff_eq.mpr c29; have c29b1 : (a0_3 != 1) = false := bne_eq_false_iff_eq.mpr c29; clear c29; (first | rw [c29b0] | (simp only [i64_w, i32_w]; rw [c29b0]) | skip); have H' := Aside0.mk H; clear H; have hnb30 := NB127_128.out; have hnc30 := NB128_127.out; have hcz31 := blk_cell BK127.out; have hfz31 := blk_frozen BK127.out; go_wp2; go_meet
      case rel => exact ⟨_, (false), (by first | rfl | (simp; done) | (simp [*]; done) | (simp; decide)), H', ⟨by have := HJ2.out; first | omega | exact Nat.le_refl _⟩, ⟨bk_ BK127.out⟩, ⟨bk_ BK128.out⟩, ⟨bl2_ HB.out GE127.out GE128.out⟩⟩
     ·rw [if_neg c29] at H
      have c29b0 : (a0_3 == 1) = false := beq_eq_false_iff_ne.mpr c29; have c29b1 : (a0_3 != 1) = true := bne_iff_ne.mpr c29; (first | rw [c29b0] | (simp only [i64_w, i32_w]; rw [c29b0]) | skip); have H' := Aside0.mk H; clear H; have hnb32 := NB127_128.out; have hnc32 := NB128_127.out; have hcz33 := blk_cell BK127.out; have hfz33 := blk_frozen BK127.out; go_wp2; go_meet
      case rel => exact ⟨_, ((a0_8 != 1)), (by first | rfl | (simp; done) | (simp [*]; done) | (simp; decide)), H', ⟨by have := HJ2.out; first | omega | exact Nat.le_refl _⟩, ⟨bk_ BK127.out⟩, ⟨bk_ BK128.out⟩, ⟨bl2_ HB.out GE127.out GE128.out⟩⟩
    case rest =>
     clear HC28; try clear c1
     try clear c2
     try clear p2
     try clear c3
     try clear c5
     try clear c6
     try clear c6b0
     try clear c7
     try clear c9
     try clear c9b0
     try clear c10
     try clear c13
     try clear c14
     try clear c18
     try clear c23
     try clear c26
     try clear c29
     try clear c29b0
     try clear c29b1
     try clear c30
     try clear c32
     try clear hcz11
     try clear hcz15
     try clear hcz19
     try clear hcz21
     try clear hcz27
     try clear hcz31
     try clear hcz33
     try clear hcz8
     try clear hfz11
     try clear hfz15
     try clear hfz19
     try clear hfz21
     try clear hfz21_13
     try clear hfz21
     try clear hfz27_0
     try clear hfz27_1
     try clear hfz27_2
     try clear hfz31
     try clear hfz33
     try clear hfz8
     try clear p2
     obtain ⟨kq, x27_27, rfl, HA, HJ27, BK127, BK128, HB⟩ := hcut; cases kq with
     | zero => exact absurd HA.out (by simp [reject_compares.j1])
     | succ kj27 =>
      have H := HA.out; clear HA; simp only [reject_compares.j1] at H; by_cases c34 : x27_27 = true
      ·subst c34
       have H1 : ((value_Compare.f a0_2 a0_6 a0_7 a0_11 a0_12).bind fun t134 => ((reject_only.f kj27 t134).bind fun bt135 => (some (bt135.1, bt135.2.1, bt135.2.2)))) = some (r1, r2, r3) := by rw [if_pos rfl] at H; exact H
       clear H; have H := H1; clear H1; replace H := Option.bind_eq_some_iff.mp H; obtain ⟨t134, A350, H⟩ := H; replace H : ((reject_only.f kj27 t134).bind fun bt135 => (some (bt135.1, bt135.2.1, bt135.2.2))) = some (r1, r2, r3) := H; have A35 := Aside0.mk A350; clear A350; replace H := Option.bind_eq_some_iff.mp H; obtain ⟨⟨t135, t136, t137⟩, A360, H⟩ := H; replace H : (some (t135, t136, t137)) = some (r1, r2, r3) := H; have A36 := Aside0.mk A360; clear A360; simp only [Option.some.injEq, Prod.mk.injEq] at H; obtain ⟨rfl, rfl, rfl⟩ := H; have hnb37 := NB127_128.out; have hnc37 := NB128_127.out; have hcz38 := blk_cell BK127.out; have hfz38 := blk_frozen BK127.out; go_wp2_with (first | ((with_reducible refine gate_callee (f := 68) rfl ?_); refine goesL_ (some 46) rfl rfl Try.func68 (by kernel_rfl) rfl #[.int .i64 a0_2, .agg #[.bool a0_6, .int .i64 a0_7], .agg #[.bool a0_11, .int .i64 a0_12]] rfl (by (try simp only [List.map_toArray, List.map_cons, List.map_nil]); first | done | rfl | (simp only [List.length_drop, List.length_take]; rfl)) ?_; (with_reducible refine (value_Compare.calls a0_2 a0_6 a0_7 a0_11 a0_12 t134 _ A35.out).mono ?_); rintro e w39 ⟨rfl, hb⟩; refine ⟨_, rfl, ?_⟩; replace BK127 := bb_ BK127 hb; replace BK128 := bb_ BK128 hb; replace HB := bs2_ HB GE127 GE128 hb; (try clear hb)) | ((with_reducible refine gate_callee (f := 57) rfl ?_); refine goesL_ (some 47) rfl rfl Try.func57 (by kernel_rfl) rfl #[.int .i64 t134] rfl (by (try simp only [List.map_toArray, List.map_cons, List.map_nil]); first | done | rfl | (simp only [List.length_drop, List.length_take]; rfl)) ?_; (with_reducible refine (reject_only.calls kj27 t134 t135 t136 t137 _ A36.out).mono ?_); rintro e w40 ⟨rfl, hb⟩; refine ⟨_, rfl, ?_⟩; replace BK127 := bb_ BK127 hb; replace BK128 := bb_ BK128 hb; replace HB := bs2_ HB GE127 GE128 hb; (try clear hb); have hcz41 := blk_cell BK128.out; have hfz41_0 := blk_frozen BK128.out 0; have hfz41_1 := blk_frozen BK128.out 1; have hfz41_2 := blk_frozen BK128.out 2))
       refine bodyPost_ret (results_cell_row rfl _ _ gb128 39 #[.bool t135, .bool t136, .bool t137] (0, 0) _ rfl (by (with_reducible repeat (first | refine blk_drewN ?_ _ | refine blk_drew ?_ | refine blk_alloc ?_ _)); refine blk_put (cs := #[.bool t135, .bool t136, .bool false]) ?_ 2 _ rfl; (with_reducible repeat (first | refine blk_drewN ?_ _ | refine blk_drew ?_ | refine blk_alloc ?_ _)); refine blk_put (cs := #[.bool t135, .bool false, .bool false]) ?_ 1 _ rfl; (with_reducible repeat (first | refine blk_drewN ?_ _ | refine blk_drew ?_ | refine blk_alloc ?_ _)); refine blk_put (cs := #[.bool false, .bool false, .bool false]) ?_ 0 _ rfl; (with_reducible repeat (first | refine blk_drewN ?_ _ | refine blk_drew ?_ | refine blk_alloc ?_ _)); exact BK128.out) Try.underlying39 rfl (by kernel_rfl)) rfl ?_; exact ⟨rr_, bl2_ HB.out GE127.out GE128.out⟩
      ·replace c34 := Bool.eq_false_iff.mpr c34
       subst c34; have H1 : (some (true, true, true)) = some (r1, r2, r3) := by rw [if_neg (show ¬ (false = true) by decide)] at H; exact H
       clear H; have H := H1; clear H1; simp only [Option.some.injEq, Prod.mk.injEq] at H; obtain ⟨rfl, rfl, rfl⟩ := H; have hnb42 := NB128_127.out; have hnc42 := NB127_128.out; have hcz43 := blk_cell BK128.out; have hfz43 := blk_frozen BK128.out; go_wp2; refine bodyPost_ret (results_cell_row rfl _ _ gb128 39 #[.bool true, .bool true, .bool true] (0, 0) _ rfl (by (with_reducible repeat (first | refine blk_drewN ?_ _ | refine blk_drew ?_ | refine blk_alloc ?_ _)); refine blk_put (cs := #[.bool true, .bool true, .bool false]) ?_ 2 _ rfl; (with_reducible repeat (first | refine blk_drewN ?_ _ | refine blk_drew ?_ | refine blk_alloc ?_ _)); refine blk_put (cs := #[.bool true, .bool false, .bool false]) ?_ 1 _ rfl; (with_reducible repeat (first | refine blk_drewN ?_ _ | refine blk_drew ?_ | refine blk_alloc ?_ _)); refine blk_put (cs := #[.bool false, .bool false, .bool false]) ?_ 0 _ rfl; (with_reducible repeat (first | refine blk_drewN ?_ _ | refine blk_drew ?_ | refine blk_alloc ?_ _)); exact BK128.out) Try.underlying39 rfl (by kernel_rfl)) rfl ?_; exact ⟨rr_, bl2_ HB.out GE127.out GE128.out⟩

/-! ### logic_Or: function 61 -/
def logic_Or.f (k : Nat) (l0 : List Int) : Option (Int) := (logic_first.f k l0 2 1 0).bind fun t138 => (some t138)
theorem logic_Or.mono : ∀ a0 k, LeO (logic_Or.f k a0) (logic_Or.f (k + 1) a0) := by
  intro a0 k
  unfold logic_Or.f
  repeat' first
      | (with_reducible exact logic_first.mono _ _ _ _ _)
      | (with_reducible exact LeO.refl _)
      | (with_reducible exact LeO.none _)
      | (with_reducible refine LeO.ite ?_ ?_)
      | (with_reducible refine LeO.bind ?_ (fun _ => ?_))
      | exact logic_first.mono _ _ _ _ _
      | exact LeO.none _
      | refine LeO.ite ?_ ?_
      | refine LeO.bind ?_ (fun _ => ?_)
set_option maxHeartbeats 8000000 in
set_option maxRecDepth 100000 in
theorem logic_Or.calls (k : Nat) (A0 : Option Addr) (c0 : Nat) (l0 : List Int) (r : Int) (w : World) (hr0 : Kd.C (Kd.int .i64) w A0 l0.length l0) (hc0 : l0.length ≤ c0) (h : logic_Or.f k l0 = some r) :
    Calls Try.prog 61 #[.slice A0 l0.length c0] w fun e w' => e = .returned (.int .i64 r) ∧ Below w.heap.size w w' := by
  have HR0 := Aside0.mk hr0
  have HC0 := Aside0.mk hc0
  clear hr0 hc0
  have HB := Aside0.mk (Below.refl w.heap.size w)
  have H : ((logic_first.f k l0 2 1 0).bind fun t138 => (some t138)) = some r := h
  clear h
  replace H := Option.bind_eq_some_iff.mp H
  obtain ⟨t138, A20, H⟩ := H
  replace H : (some t138) = some r := H
  have A2 := Aside0.mk A20
  clear A20
  obtain rfl := Option.some.inj H
  go_enter Try.func61, Try.ntmps61
  go_wp2_with (first | ((with_reducible refine gate_callee (f := 91) rfl ?_); refine goesL_ (some 4) rfl rfl Try.func91 (by kernel_rfl) rfl #[.slice A0 l0.length c0, .int .i64 2, .int .i64 1, .int .i64 0] rfl (by (try simp only [List.map_toArray, List.map_cons, List.map_nil]); first | done | rfl | (simp only [List.length_drop, List.length_take]; rfl)) ?_; (with_reducible refine (logic_first.calls k _ _ l0 2 1 0 t138 _ ?side1 ?side2 A2.out).mono ?_); (case side1 => repeat (first | exact HR0.out | (with_reducible refine Kd.C_alloc ?_ _) | (with_reducible refine Kd.C_drewN ?_ _) | (with_reducible refine Kd.C_drew ?_))); (case side2 => exact HC0.out); rintro e w3 ⟨rfl, hb⟩; refine ⟨_, rfl, ?_⟩; have n0_ := Aside0.mk (below_step (by repeat (first | (with_reducible first | exact HB.out | apply below_alloc | apply pw_below_drewN | apply below_drew1) | exact HB.out)) hb); clear HB; have HB := n0_; clear n0_; (try clear hb); (try clear hb2); (try clear hk); (try clear hi)))
  go_ret
  exact ⟨by first | rfl | (simp [errW_none, errW_some] <;> rfl) | (simp [*, errW_none, errW_some] <;> rfl), by repeat (first | (with_reducible first | exact HB.out | apply below_alloc | apply pw_below_drewN | apply below_drew1) | exact HB.out)⟩

-- NOT PRINTED: function 62 (reject_both)

end Go.Proofs.Ytigkkfhpnfjmhaa.PRejG
