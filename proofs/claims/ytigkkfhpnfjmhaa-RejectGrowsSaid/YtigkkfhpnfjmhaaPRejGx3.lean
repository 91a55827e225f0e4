/- Laid by a program of this session over the printer of the kit: contracts of functions of the given program, and rows of laws. Lean checks it. -/
import Derived.Test.YtigkkfhpnfjmhaaPRejGx0
import Derived.Test.YtigkkfhpnfjmhaaPRejGx2
namespace Go.Proofs.Ytigkkfhpnfjmhaa.PRejG
open Go.RowKit Go.Proofs.YtigkkfhpnfjmhaaW.PrintWords Go.Proofs.YtigkkfhpnfjmhaaW.PrintLast Go.Proofs.YtigkkfhpnfjmhaaW.PrintMore
attribute [local go_sem] max2_int min2_int max_two min_two max_three min_three max_four min_four   -- for this text's walks alone
set_option linter.unusedVariables false
set_option linter.unusedSimpArgs false

/-! ### reject_both_at_logic_Or: function 1000002 (by hand) -/
def reject_both_at_logic_Or.m (i j : Nat) : Nat := max i j
theorem reject_both_at_logic_Or.m_lt {i j : Nat} (hi : i < 3) (hj : j < 3) : reject_both_at_logic_Or.m i j < 3 := by unfold reject_both_at_logic_Or.m; omega
theorem reject_both_at_logic_Or.m_f {i j : Nat} (hi : i < 3) (hj : j < 3) : logic_Or.f 9 [(i : Int), (j : Int)] = some ((reject_both_at_logic_Or.m i j : Nat) : Int) := by
 have h1 : i = 0 ∨ i = 1 ∨ i = 2 := by omega
 have h2 : j = 0 ∨ j = 1 ∨ j = 2 := by omega
 rcases h1 with rfl | rfl | rfl <;> rcases h2 with rfl | rfl | rfl <;> decide +kernel
def reject_both_at_logic_Or.sel (x0 x1 x2 : Bool) (i : Nat) : Bool := if i = 0 then x0 else if i = 1 then x1 else x2
def reject_both_at_logic_Or.out (a0 a1 a2 b0 b1 b2 : Bool) : Nat → Nat → Bool
 | 0, _ => false
 | n + 1, t => reject_both_at_logic_Or.out a0 a1 a2 b0 b1 b2 n t || (reject_both_at_logic_Or.sel a0 a1 a2 (n / 3) && reject_both_at_logic_Or.sel b0 b1 b2 (n % 3) && decide (reject_both_at_logic_Or.m (n / 3) (n % 3) = t))
def reject_both_at_logic_Or.cs (a0 a1 a2 b0 b1 b2 : Bool) (n : Nat) : Array Value := #[.bool (reject_both_at_logic_Or.out a0 a1 a2 b0 b1 b2 n 0), .bool (reject_both_at_logic_Or.out a0 a1 a2 b0 b1 b2 n 1), .bool (reject_both_at_logic_Or.out a0 a1 a2 b0 b1 b2 n 2)]
theorem reject_both_at_logic_Or.cs_off {a0 a1 a2 b0 b1 b2 : Bool} {i j : Nat} (hj : j < 3) (h : (reject_both_at_logic_Or.sel a0 a1 a2 i && reject_both_at_logic_Or.sel b0 b1 b2 j) = false) : reject_both_at_logic_Or.cs a0 a1 a2 b0 b1 b2 (3 * i + j + 1) = reject_both_at_logic_Or.cs a0 a1 a2 b0 b1 b2 (3 * i + j) := by
 have e1 : (3 * i + j) / 3 = i := by omega
 have e2 : (3 * i + j) % 3 = j := by omega
 simp only [reject_both_at_logic_Or.cs, reject_both_at_logic_Or.out, e1, e2, h, Bool.false_and, Bool.or_false]
theorem reject_both_at_logic_Or.cs_on {a0 a1 a2 b0 b1 b2 : Bool} {i j : Nat} (hi : i < 3) (hj : j < 3) (h : (reject_both_at_logic_Or.sel a0 a1 a2 i && reject_both_at_logic_Or.sel b0 b1 b2 j) = true) : (reject_both_at_logic_Or.cs a0 a1 a2 b0 b1 b2 (3 * i + j)).setIfInBounds (reject_both_at_logic_Or.m i j) (.bool true) = reject_both_at_logic_Or.cs a0 a1 a2 b0 b1 b2 (3 * i + j + 1) := by
 have e1 : (3 * i + j) / 3 = i := by omega
 have e2 : (3 * i + j) % 3 = j := by omega
 have hm := reject_both_at_logic_Or.m_lt hi hj; have h3 : reject_both_at_logic_Or.m i j = 0 ∨ reject_both_at_logic_Or.m i j = 1 ∨ reject_both_at_logic_Or.m i j = 2 := by omega
 rcases h3 with h3 | h3 | h3 <;> simp [reject_both_at_logic_Or.cs, reject_both_at_logic_Or.out, e1, e2, h, h3]
theorem reject_both_at_logic_Or.sel_cell {w : World} {g : Nat} {x0 x1 x2 : Bool} (h : w.heap[g]? = some (.cells #[.bool x0, .bool x1, .bool x2] 39 (0, 0))) {i : Nat} (hi : i < 3) : w.cell? ⟨g, i, none⟩ = some (.bool (reject_both_at_logic_Or.sel x0 x1 x2 i)) := by
 have h1 : i = 0 ∨ i = 1 ∨ i = 2 := by omega
 rcases h1 with rfl | rfl | rfl <;> exact (blk_cell h _).trans rfl
def reject_both_at_logic_Or.f (k : Nat) (a0_0 a0_1 a0_2 a1_0 a1_1 a1_2 : Bool) : Option (Bool × Bool × Bool) := some (reject_both_at_logic_Or.out a0_0 a0_1 a0_2 a1_0 a1_1 a1_2 9 0, reject_both_at_logic_Or.out a0_0 a0_1 a0_2 a1_0 a1_1 a1_2 9 1, reject_both_at_logic_Or.out a0_0 a0_1 a0_2 a1_0 a1_1 a1_2 9 2)
theorem reject_both_at_logic_Or.mono : ∀ a0 a1 a2 a3 a4 a5 k, LeO (reject_both_at_logic_Or.f k a0 a1 a2 a3 a4 a5) (reject_both_at_logic_Or.f (k + 1) a0 a1 a2 a3 a4 a5) := fun _ _ _ _ _ _ _ => LeO.refl _
set_option maxHeartbeats 8000000 in
set_option maxRecDepth 100000 in
theorem reject_both_at_logic_Or.calls (k : Nat) (a0_0 : Bool) (a0_1 : Bool) (a0_2 : Bool) (a1_0 : Bool) (a1_1 : Bool) (a1_2 : Bool) (r1 : Bool) (r2 : Bool) (r3 : Bool) (w : World) (h : reject_both_at_logic_Or.f k a0_0 a0_1 a0_2 a1_0 a1_1 a1_2 = some (r1, r2, r3)) :
  Calls Try.prog 62 #[.agg #[.bool a0_0, .bool a0_1, .bool a0_2], .agg #[.bool a1_0, .bool a1_1, .bool a1_2], .func (.func 61) #[] #[]] w fun e w' => e = .returned (.agg #[.bool r1, .bool r2, .bool r3]) ∧ Below w.heap.size w w' := by
 have HR := Aside0.mk (Option.some.inj h); clear h; have hu39 := Try.underlying39; have HB := Aside0.mk (Below.refl w.heap.size w); go_enter Try.func62, Try.ntmps62
 go_wp2_with (first
  | ((with_reducible refine gate_dst (N := 3) rfl ?_); refine box_event ?hg (N := 3) ?hd (cs := #[.bool a0_0, .bool a0_1, .bool a0_2]) (t := 39) ?hr ?_; (case hd => rfl); (case hg => rfl); (case hr => first | (go_simp; done) | (go_simp; rfl)); intro g1 hg w4 hbox hb; have B1 := Aside0.mk hbox; have G1 := Aside0.mk (show w.heap.size ≤ g1 by rw [hg]; exact below_size HB.out); have HB' := Aside0.mk (below_step HB.out hb); clear HB; have HB := HB'; clear HB' hb hbox hg)
  | ((with_reducible refine gate_dst (N := 4) rfl ?_); refine box_event ?hg (N := 4) ?hd (cs := #[.bool a1_0, .bool a1_1, .bool a1_2]) (t := 39) ?hr ?_; (case hd => rfl); (case hg => rfl); (case hr => first | (go_simp; done) | (go_simp; rfl)); intro g2 hg w5 hbox hb; have N12 := Aside0.mk (show g1 ≠ g2 by rw [hg]; exact Nat.ne_of_lt (blk_lt B1.out)); have B1' := Aside0.mk (blk_below B1.out hb); clear B1; have B1 := B1'; clear B1'; have B2 := Aside0.mk hbox; have HB' := Aside0.mk (below_step HB.out hb); clear HB; have HB := HB'; clear HB' hb hbox hg)
  | ((with_reducible refine gate_dst (N := 6) rfl ?_); refine box_event ?hg (N := 6) ?hd (cs := #[.bool false, .bool false, .bool false]) (t := 39) ?hr ?_; (case hd => rfl); (case hg => rfl); (case hr => first | (go_simp; done) | (go_simp; rfl)); intro g3 hg w6 hbox hb; have N13 := Aside0.mk (show g1 ≠ g3 by rw [hg]; exact Nat.ne_of_lt (blk_lt B1.out)); have N23 := Aside0.mk (show g2 ≠ g3 by rw [hg]; exact Nat.ne_of_lt (blk_lt B2.out)); have G3 := Aside0.mk (show w.heap.size ≤ g3 by rw [hg]; exact below_size HB.out); have B1' := Aside0.mk (blk_below B1.out hb); clear B1; have B1 := B1'; clear B1'; have B2' := Aside0.mk (blk_below B2.out hb); clear B2; have B2 := B2'; clear B2'; have B3 := Aside0.mk hbox; have HB' := Aside0.mk (below_step HB.out hb); clear HB; have HB := HB'; clear HB' hb hbox hg)
  | ((with_reducible refine gate_dst (N := 7) rfl ?_); refine box_event ?hg (N := 7) ?hd (cs := #[.bool false, .bool false, .bool false]) (t := 39) ?hr ?_; (case hd => rfl); (case hg => rfl); (case hr => first | (go_simp; done) | (go_simp; rfl)); intro g4 hg w7 hbox hb; have N14 := Aside0.mk (show g1 ≠ g4 by rw [hg]; exact Nat.ne_of_lt (blk_lt B1.out)); have N24 := Aside0.mk (show g2 ≠ g4 by rw [hg]; exact Nat.ne_of_lt (blk_lt B2.out)); have N34 := Aside0.mk (show g3 ≠ g4 by rw [hg]; exact Nat.ne_of_lt (blk_lt B3.out)); have G4 := Aside0.mk (show w.heap.size ≤ g4 by rw [hg]; exact below_size HB.out); have B1' := Aside0.mk (blk_below B1.out hb); clear B1; have B1 := B1'; clear B1'; have B2' := Aside0.mk (blk_below B2.out hb); clear B2; have B2 := B2'; clear B2'; have B3' := Aside0.mk (blk_below B3.out hb); clear B3; have B3 := B3'; clear B3'; have B4 := Aside0.mk hbox; have HB' := Aside0.mk (below_step HB.out hb); clear HB; have HB := HB'; clear HB' hb hbox hg))
 go_loopg [10] 3 (fun kq v10 w' => ∃ i : Nat, v10 = .int .i64 (i : Int) ∧ Aside0 (kq + i = 3) ∧ Aside0 (w'.heap[g1]? = some (.cells #[.bool a0_0, .bool a0_1, .bool a0_2] 39 (0, 0))) ∧ Aside0 (w'.heap[g2]? = some (.cells #[.bool a1_0, .bool a1_1, .bool a1_2] 39 (0, 0))) ∧ Aside0 (w'.heap[g3]? = some (.cells #[.bool false, .bool false, .bool false] 39 (0, 0))) ∧ Aside0 (w'.heap[g4]? = some (.cells (reject_both_at_logic_Or.cs a0_0 a0_1 a0_2 a1_0 a1_1 a1_2 (3 * i)) 39 (0, 0))) ∧ Aside0 (Below w.heap.size w w'))
 case atStart => exact ⟨0, rfl, ⟨rfl⟩, ⟨by exact B1.out⟩, ⟨by exact B2.out⟩, ⟨by exact B3.out⟩, ⟨by exact B4.out⟩, ⟨by exact HB.out⟩⟩
 case round =>
  clear B1 B2 B3 B4 HB; obtain ⟨i, rfl, HI, B1, B2, B3, B4, HB⟩ := hrel; by_cases hi : i < 3
  ·cases gk with
   | zero => exact absurd HI.out (by omega)
   | succ ki =>
   have ci : decide ((i : Int) < 3) = true := by simp; omega
   go_wp2
   go_loopg [13] 3 (fun kq v13 w' => ∃ j : Nat, v13 = .int .i64 (j : Int) ∧ Aside0 (kq + j = 3) ∧ Aside0 (w'.heap[g1]? = some (.cells #[.bool a0_0, .bool a0_1, .bool a0_2] 39 (0, 0))) ∧ Aside0 (w'.heap[g2]? = some (.cells #[.bool a1_0, .bool a1_1, .bool a1_2] 39 (0, 0))) ∧ Aside0 (w'.heap[g3]? = some (.cells #[.bool false, .bool false, .bool false] 39 (0, 0))) ∧ Aside0 (w'.heap[g4]? = some (.cells (reject_both_at_logic_Or.cs a0_0 a0_1 a0_2 a1_0 a1_1 a1_2 (3 * i + j)) 39 (0, 0))) ∧ Aside0 (Below w.heap.size w w'))
   case atStart => exact ⟨0, rfl, ⟨rfl⟩, ⟨by exact B1.out⟩, ⟨by exact B2.out⟩, ⟨by exact B3.out⟩, ⟨by exact B4.out⟩, ⟨by exact HB.out⟩⟩
   case round =>
    clear B1 B2 B3 B4 HB; obtain ⟨j, rfl, HJ, B1, B2, B3, B4, HB⟩ := hrel; obtain ⟨kj, rfl⟩ : ∃ q, q = gk := ⟨_, rfl⟩; by_cases hj : j < 3
    ·have cj : decide ((j : Int) < 3) = true := by simp; omega
     have wi : IntKind.i64.wrap ((i : Int) + 1) = ((i + 1 : Nat) : Int) := by rw [IntKind.wrap_i64]; omega
     have wj : IntKind.i64.wrap ((j : Int) + 1) = ((j + 1 : Nat) : Int) := by rw [IntKind.wrap_i64]; omega
     have hA := reject_both_at_logic_Or.sel_cell B1.out hi; have hB := reject_both_at_logic_Or.sel_cell B2.out hj; have li : (i : Int) < 3 := by omega
     have lj : (j : Int) < 3 := by omega
     have fA := blk_frozen B1.out i; have fB := blk_frozen B2.out j; obtain ⟨x, hx⟩ : ∃ x, reject_both_at_logic_Or.sel a0_0 a0_1 a0_2 i = x := ⟨_, rfl⟩; obtain ⟨y, hy⟩ : ∃ y, reject_both_at_logic_Or.sel a1_0 a1_1 a1_2 j = y := ⟨_, rfl⟩; rw [hx] at hA; rw [hy] at hB; have HX := Aside0.mk hx; have HY := Aside0.mk hy; clear hx hy; cases kj with
     | zero => exact absurd HJ.out (by omega)
     | succ kj =>
     cases x with
     | false =>
      go_wp2
      go_roundg kj
      case measure => omega
      case rel => exact ⟨j + 1, by simp, ⟨by have := HJ.out; omega⟩, ⟨by exact B1.out⟩, ⟨by exact B2.out⟩, ⟨by exact B3.out⟩, ⟨by rw [← Nat.add_assoc, reject_both_at_logic_Or.cs_off hj (by rw [HX.out]; rfl)]; exact B4.out⟩, ⟨by exact HB.out⟩⟩
     | true =>
      cases y with
      | false =>
       go_wp2
       go_roundg kj
       case measure => omega
       case rel => exact ⟨j + 1, by simp, ⟨by have := HJ.out; omega⟩, ⟨by exact B1.out⟩, ⟨by exact B2.out⟩, ⟨by exact B3.out⟩, ⟨by rw [← Nat.add_assoc, reject_both_at_logic_Or.cs_off hj (by rw [HX.out, HY.out]; rfl)]; exact B4.out⟩, ⟨by exact HB.out⟩⟩
      | true =>
       have HS := Aside0.mk (reject_both_at_logic_Or.cs_on (a0 := a0_0) (a1 := a0_1) (a2 := a0_2) (b0 := a1_0) (b1 := a1_1) (b2 := a1_2) hi hj (by rw [HX.out, HY.out]; rfl)); have HM := Aside0.mk (reject_both_at_logic_Or.m_f hi hj); obtain ⟨tt, htt⟩ : ∃ tt, reject_both_at_logic_Or.m i j = tt := ⟨_, rfl⟩; have ht3 : tt < 3 := by rw [← htt]; exact reject_both_at_logic_Or.m_lt hi hj
       have lt3 : (tt : Int) < 3 := by omega
       rw [htt] at HS HM; clear htt
       go_wp2_with (first
        | ((with_reducible refine gate_dst (N := 27) rfl ?_); refine Kd.R_lit (Kd.int .i64) _ 3 ?hg (N := 27) ?hd (xs := ([(i : Int), (j : Int)] : List Int)) (inner := [.int .i64 (i : Int), .int .i64 (j : Int)]) (ok := fun _ => True) (okp := fun _ => True) ?hr ?hp (fun _ hk => hk) trivial (Below.refl _ _) (Nat.le_refl _) (by simp) ?_; (case hd => rfl); (case hg => rfl); (case hr => first | (go_simp; done) | (go_simp; rfl)); (case hp => exact (Reps.one (show Kd.M (Kd.int .i64) _ _ _ (i : Int) [.int .i64 (i : Int)] from rfl) (Reps.one (show Kd.M (Kd.int .i64) _ _ _ (j : Int) [.int .i64 (j : Int)] from rfl) (Reps.none _ _)))); intro v168 w23 ho24 hb hg_ hnew_; clear hg_ hnew_; have HO := Aside0.mk (Kd.R_lower ho24 (below_size HB.out)); have C1 := Aside0.mk (blk_below B1.out hb); have C2 := Aside0.mk (blk_below B2.out hb); have C3 := Aside0.mk (blk_below B3.out hb); have C4 := Aside0.mk (blk_below B4.out hb); have HB' := Aside0.mk (below_step HB.out hb); clear hb ho24; obtain ⟨Ao, co, eo⟩ := Kd.R_slice HO.out; subst eo)
        | ((with_reducible refine gate_calleev (t := 24) rfl ?_); refine goesV_ (caps := #[]) (some 28) rfl rfl Try.func61 (by kernel_rfl) rfl #[.slice Ao ([(i : Int), (j : Int)] : List Int).length co] rfl rfl (by (try simp only [List.map_toArray, List.map_cons, List.map_nil]); first | done | rfl | (simp only [List.length_drop, List.length_take]; rfl)) ?_; (with_reducible refine (logic_Or.calls 9 _ _ ([(i : Int), (j : Int)] : List Int) (tt : Int) _ ?side1 ?side2 HM.out).mono ?_); (case side1 => exact (Kd.R_reads' HO.out).2.2); (case side2 => exact (Kd.R_reads' HO.out).2.1); rintro e w26 ⟨rfl, hb⟩; refine ⟨_, rfl, ?_⟩; have D1 := Aside0.mk (blk_below C1.out hb); have D2 := Aside0.mk (blk_below C2.out hb); have D3 := Aside0.mk (blk_below C3.out hb); have D4 := Aside0.mk (blk_below C4.out hb); have HB2 := Aside0.mk (below_step HB'.out hb); have h4 := reject_both_at_logic_Or.sel_cell D4.out ht3; have f4 := blk_frozen D4.out tt; clear hb))
       go_roundg kj
       case measure => omega
       case rel => exact ⟨j + 1, by simp, ⟨by have := HJ.out; omega⟩, ⟨by exact blk_far D1.out N14.out _⟩, ⟨by exact blk_far D2.out N24.out _⟩, ⟨by exact blk_far D3.out N34.out _⟩, ⟨by rw [← Nat.add_assoc, ← HS.out]; exact blk_set D4.out _ _⟩, ⟨by exact below_set HB2.out G4.out⟩⟩
    ·obtain rfl : j = 3 := by have := HJ.out; omega
     go_wp2
     go_roundg ki
     case measure => omega
     case rel => exact ⟨i + 1, by simp, ⟨by have := HI.out; omega⟩, ⟨by exact B1.out⟩, ⟨by exact B2.out⟩, ⟨by exact B3.out⟩, ⟨by exact B4.out⟩, ⟨by exact HB.out⟩⟩
  ·obtain rfl : i = 3 := by have := HI.out; omega
   have e := HR.out; simp only [Prod.mk.injEq] at e; have h0 : wr.cell? ⟨g4, 0, none⟩ = some (.bool r1) := by rw [← e.1]; exact (blk_cell B4.out 0).trans rfl
   have h1 : wr.cell? ⟨g4, 1, none⟩ = some (.bool r2) := by rw [← e.2.1]; exact (blk_cell B4.out 1).trans rfl
   have h2 : wr.cell? ⟨g4, 2, none⟩ = some (.bool r3) := by rw [← e.2.2]; exact (blk_cell B4.out 2).trans rfl
   have q3 := blk_cell B3.out; have f3 := blk_frozen B3.out; clear e; go_wp2; refine bodyPost_ret (results_cell_row rfl _ _ g3 39 #[.bool r1, .bool r2, .bool r3] (0, 0) _ rfl (by refine blk_put (cs := #[.bool r1, .bool r2, .bool false]) ?_ 2 _ rfl; refine blk_put (cs := #[.bool r1, .bool false, .bool false]) ?_ 1 _ rfl; refine blk_put (cs := #[.bool false, .bool false, .bool false]) ?_ 0 _ rfl; exact B3.out) Try.underlying39 rfl (by kernel_rfl)) rfl ?_; exact ⟨rfl, below_set (below_set (below_set HB.out G3.out) G3.out) G3.out⟩

/-! ### reject_both_at_logic_And: function 1000003 (by hand) -/
def reject_both_at_logic_And.m (i j : Nat) : Nat := min i j
theorem reject_both_at_logic_And.m_lt {i j : Nat} (hi : i < 3) (hj : j < 3) : reject_both_at_logic_And.m i j < 3 := by unfold reject_both_at_logic_And.m; omega
theorem reject_both_at_logic_And.m_f {i j : Nat} (hi : i < 3) (hj : j < 3) : logic_And.f 9 [(i : Int), (j : Int)] = some ((reject_both_at_logic_And.m i j : Nat) : Int) := by
 have h1 : i = 0 ∨ i = 1 ∨ i = 2 := by omega
 have h2 : j = 0 ∨ j = 1 ∨ j = 2 := by omega
 rcases h1 with rfl | rfl | rfl <;> rcases h2 with rfl | rfl | rfl <;> decide +kernel
def reject_both_at_logic_And.sel (x0 x1 x2 : Bool) (i : Nat) : Bool := if i = 0 then x0 else if i = 1 then x1 else x2
def reject_both_at_logic_And.out (a0 a1 a2 b0 b1 b2 : Bool) : Nat → Nat → Bool
 | 0, _ => false
 | n + 1, t => reject_both_at_logic_And.out a0 a1 a2 b0 b1 b2 n t || (reject_both_at_logic_And.sel a0 a1 a2 (n / 3) && reject_both_at_logic_And.sel b0 b1 b2 (n % 3) && decide (reject_both_at_logic_And.m (n / 3) (n % 3) = t))
def reject_both_at_logic_And.cs (a0 a1 a2 b0 b1 b2 : Bool) (n : Nat) : Array Value := #[.bool (reject_both_at_logic_And.out a0 a1 a2 b0 b1 b2 n 0), .bool (reject_both_at_logic_And.out a0 a1 a2 b0 b1 b2 n 1), .bool (reject_both_at_logic_And.out a0 a1 a2 b0 b1 b2 n 2)]
theorem reject_both_at_logic_And.cs_off {a0 a1 a2 b0 b1 b2 : Bool} {i j : Nat} (hj : j < 3) (h : (reject_both_at_logic_And.sel a0 a1 a2 i && reject_both_at_logic_And.sel b0 b1 b2 j) = false) : reject_both_at_logic_And.cs a0 a1 a2 b0 b1 b2 (3 * i + j + 1) = reject_both_at_logic_And.cs a0 a1 a2 b0 b1 b2 (3 * i + j) := by
 have e1 : (3 * i + j) / 3 = i := by omega
 have e2 : (3 * i + j) % 3 = j := by omega
 simp only [reject_both_at_logic_And.cs, reject_both_at_logic_And.out, e1, e2, h, Bool.false_and, Bool.or_false]
theorem reject_both_at_logic_And.cs_on {a0 a1 a2 b0 b1 b2 : Bool} {i j : Nat} (hi : i < 3) (hj : j < 3) (h : (reject_both_at_logic_And.sel a0 a1 a2 i && reject_both_at_logic_And.sel b0 b1 b2 j) = true) : (reject_both_at_logic_And.cs a0 a1 a2 b0 b1 b2 (3 * i + j)).setIfInBounds (reject_both_at_logic_And.m i j) (.bool true) = reject_both_at_logic_And.cs a0 a1 a2 b0 b1 b2 (3 * i + j + 1) := by
 have e1 : (3 * i + j) / 3 = i := by omega
 have e2 : (3 * i + j) % 3 = j := by omega
 have hm := reject_both_at_logic_And.m_lt hi hj; have h3 : reject_both_at_logic_And.m i j = 0 ∨ reject_both_at_logic_And.m i j = 1 ∨ reject_both_at_logic_And.m i j = 2 := by omega
 rcases h3 with h3 | h3 | h3 <;> simp [reject_both_at_logic_And.cs, reject_both_at_logic_And.out, e1, e2, h, h3]
theorem reject_both_at_logic_And.sel_cell {w : World} {g : Nat} {x0 x1 x2 : Bool} (h : w.heap[g]? = some (.cells #[.bool x0, .bool x1, .bool x2] 39 (0, 0))) {i : Nat} (hi : i < 3) : w.cell? ⟨g, i, none⟩ = some (.bool (reject_both_at_logic_And.sel x0 x1 x2 i)) := by
 have h1 : i = 0 ∨ i = 1 ∨ i = 2 := by omega
 rcases h1 with rfl | rfl | rfl <;> exact (blk_cell h _).trans rfl
def reject_both_at_logic_And.f (k : Nat) (a0_0 a0_1 a0_2 a1_0 a1_1 a1_2 : Bool) : Option (Bool × Bool × Bool) := some (reject_both_at_logic_And.out a0_0 a0_1 a0_2 a1_0 a1_1 a1_2 9 0, reject_both_at_logic_And.out a0_0 a0_1 a0_2 a1_0 a1_1 a1_2 9 1, reject_both_at_logic_And.out a0_0 a0_1 a0_2 a1_0 a1_1 a1_2 9 2)
theorem reject_both_at_logic_And.mono : ∀ a0 a1 a2 a3 a4 a5 k, LeO (reject_both_at_logic_And.f k a0 a1 a2 a3 a4 a5) (reject_both_at_logic_And.f (k + 1) a0 a1 a2 a3 a4 a5) := fun _ _ _ _ _ _ _ => LeO.refl _
set_option maxHeartbeats 8000000 in
set_option maxRecDepth 100000 in
theorem reject_both_at_logic_And.calls (k : Nat) (a0_0 : Bool) (a0_1 : Bool) (a0_2 : Bool) (a1_0 : Bool) (a1_1 : Bool) (a1_2 : Bool) (r1 : Bool) (r2 : Bool) (r3 : Bool) (w : World) (h : reject_both_at_logic_And.f k a0_0 a0_1 a0_2 a1_0 a1_1 a1_2 = some (r1, r2, r3)) :
  Calls Try.prog 62 #[.agg #[.bool a0_0, .bool a0_1, .bool a0_2], .agg #[.bool a1_0, .bool a1_1, .bool a1_2], .func (.func 60) #[] #[]] w fun e w' => e = .returned (.agg #[.bool r1, .bool r2, .bool r3]) ∧ Below w.heap.size w w' := by
 have HR := Aside0.mk (Option.some.inj h); clear h; have hu39 := Try.underlying39; have HB := Aside0.mk (Below.refl w.heap.size w); go_enter Try.func62, Try.ntmps62
 go_wp2_with (first
  | ((with_reducible refine gate_dst (N := 3) rfl ?_); refine box_event ?hg (N := 3) ?hd (cs := #[.bool a0_0, .bool a0_1, .bool a0_2]) (t := 39) ?hr ?_; (case hd => rfl); (case hg => rfl); (case hr => first | (go_simp; done) | (go_simp; rfl)); intro g1 hg w4 hbox hb; have B1 := Aside0.mk hbox; have G1 := Aside0.mk (show w.heap.size ≤ g1 by rw [hg]; exact below_size HB.out); have HB' := Aside0.mk (below_step HB.out hb); clear HB; have HB := HB'; clear HB' hb hbox hg)
  | ((with_reducible refine gate_dst (N := 4) rfl ?_); refine box_event ?hg (N := 4) ?hd (cs := #[.bool a1_0, .bool a1_1, .bool a1_2]) (t := 39) ?hr ?_; (case hd => rfl); (case hg => rfl); (case hr => first | (go_simp; done) | (go_simp; rfl)); intro g2 hg w5 hbox hb; have N12 := Aside0.mk (show g1 ≠ g2 by rw [hg]; exact Nat.ne_of_lt (blk_lt B1.out)); have B1' := Aside0.mk (blk_below B1.out hb); clear B1; have B1 := B1'; clear B1'; have B2 := Aside0.mk hbox; have HB' := Aside0.mk (below_step HB.out hb); clear HB; have HB := HB'; clear HB' hb hbox hg)
  | ((with_reducible refine gate_dst (N := 6) rfl ?_); refine box_event ?hg (N := 6) ?hd (cs := #[.bool false, .bool false, .bool false]) (t := 39) ?hr ?_; (case hd => rfl); (case hg => rfl); (case hr => first | (go_simp; done) | (go_simp; rfl)); intro g3 hg w6 hbox hb; have N13 := Aside0.mk (show g1 ≠ g3 by rw [hg]; exact Nat.ne_of_lt (blk_lt B1.out)); have N23 := Aside0.mk (show g2 ≠ g3 by rw [hg]; exact Nat.ne_of_lt (blk_lt B2.out)); have G3 := Aside0.mk (show w.heap.size ≤ g3 by rw [hg]; exact below_size HB.out); have B1' := Aside0.mk (blk_below B1.out hb); clear B1; have B1 := B1'; clear B1'; have B2' := Aside0.mk (blk_below B2.out hb); clear B2; have B2 := B2'; clear B2'; have B3 := Aside0.mk hbox; have HB' := Aside0.mk (below_step HB.out hb); clear HB; have HB := HB'; clear HB' hb hbox hg)
  | ((with_reducible refine gate_dst (N := 7) rfl ?_); refine box_event ?hg (N := 7) ?hd (cs := #[.bool false, .bool false, .bool false]) (t := 39) ?hr ?_; (case hd => rfl); (case hg => rfl); (case hr => first | (go_simp; done) | (go_simp; rfl)); intro g4 hg w7 hbox hb; have N14 := Aside0.mk (show g1 ≠ g4 by rw [hg]; exact Nat.ne_of_lt (blk_lt B1.out)); have N24 := Aside0.mk (show g2 ≠ g4 by rw [hg]; exact Nat.ne_of_lt (blk_lt B2.out)); have N34 := Aside0.mk (show g3 ≠ g4 by rw [hg]; exact Nat.ne_of_lt (blk_lt B3.out)); have G4 := Aside0.mk (show w.heap.size ≤ g4 by rw [hg]; exact below_size HB.out); have B1' := Aside0.mk (blk_below B1.out hb); clear B1; have B1 := B1'; clear B1'; have B2' := Aside0.mk (blk_below B2.out hb); clear B2; have B2 := B2'; clear B2'; have B3' := Aside0.mk (blk_below B3.out hb); clear B3; have B3 := B3'; clear B3'; have B4 := Aside0.mk hbox; have HB' := Aside0.mk (below_step HB.out hb); clear HB; have HB := HB'; clear HB' hb hbox hg))
 go_loopg [10] 3 (fun kq v10 w' => ∃ i : Nat, v10 = .int .i64 (i : Int) ∧ Aside0 (kq + i = 3) ∧ Aside0 (w'.heap[g1]? = some (.cells #[.bool a0_0, .bool a0_1, .bool a0_2] 39 (0, 0))) ∧ Aside0 (w'.heap[g2]? = some (.cells #[.bool a1_0, .bool a1_1, .bool a1_2] 39 (0, 0))) ∧ Aside0 (w'.heap[g3]? = some (.cells #[.bool false, .bool false, .bool false] 39 (0, 0))) ∧ Aside0 (w'.heap[g4]? = some (.cells (reject_both_at_logic_And.cs a0_0 a0_1 a0_2 a1_0 a1_1 a1_2 (3 * i)) 39 (0, 0))) ∧ Aside0 (Below w.heap.size w w'))
 case atStart => exact ⟨0, rfl, ⟨rfl⟩, ⟨by exact B1.out⟩, ⟨by exact B2.out⟩, ⟨by exact B3.out⟩, ⟨by exact B4.out⟩, ⟨by exact HB.out⟩⟩
 case round =>
  clear B1 B2 B3 B4 HB; obtain ⟨i, rfl, HI, B1, B2, B3, B4, HB⟩ := hrel; by_cases hi : i < 3
  ·cases gk with
   | zero => exact absurd HI.out (by omega)
   | succ ki =>
   have ci : decide ((i : Int) < 3) = true := by simp; omega
   go_wp2
   go_loopg [13] 3 (fun kq v13 w' => ∃ j : Nat, v13 = .int .i64 (j : Int) ∧ Aside0 (kq + j = 3) ∧ Aside0 (w'.heap[g1]? = some (.cells #[.bool a0_0, .bool a0_1, .bool a0_2] 39 (0, 0))) ∧ Aside0 (w'.heap[g2]? = some (.cells #[.bool a1_0, .bool a1_1, .bool a1_2] 39 (0, 0))) ∧ Aside0 (w'.heap[g3]? = some (.cells #[.bool false, .bool false, .bool false] 39 (0, 0))) ∧ Aside0 (w'.heap[g4]? = some (.cells (reject_both_at_logic_And.cs a0_0 a0_1 a0_2 a1_0 a1_1 a1_2 (3 * i + j)) 39 (0, 0))) ∧ Aside0 (Below w.heap.size w w'))
   case atStart => exact ⟨0, rfl, ⟨rfl⟩, ⟨by exact B1.out⟩, ⟨by exact B2.out⟩, ⟨by exact B3.out⟩, ⟨by exact B4.out⟩, ⟨by exact HB.out⟩⟩
   case round =>
    clear B1 B2 B3 B4 HB; obtain ⟨j, rfl, HJ, B1, B2, B3, B4, HB⟩ := hrel; obtain ⟨kj, rfl⟩ : ∃ q, q = gk := ⟨_, rfl⟩; by_cases hj : j < 3
    ·have cj : decide ((j : Int) < 3) = true := by simp; omega
     have wi : IntKind.i64.wrap ((i : Int) + 1) = ((i + 1 : Nat) : Int) := by rw [IntKind.wrap_i64]; omega
     have wj : IntKind.i64.wrap ((j : Int) + 1) = ((j + 1 : Nat) : Int) := by rw [IntKind.wrap_i64]; omega
     have hA := reject_both_at_logic_And.sel_cell B1.out hi; have hB := reject_both_at_logic_And.sel_cell B2.out hj; have li : (i : Int) < 3 := by omega
     have lj : (j : Int) < 3 := by omega
     have fA := blk_frozen B1.out i; have fB := blk_frozen B2.out j; obtain ⟨x, hx⟩ : ∃ x, reject_both_at_logic_And.sel a0_0 a0_1 a0_2 i = x := ⟨_, rfl⟩; obtain ⟨y, hy⟩ : ∃ y, reject_both_at_logic_And.sel a1_0 a1_1 a1_2 j = y := ⟨_, rfl⟩; rw [hx] at hA; rw [hy] at hB; have HX := Aside0.mk hx; have HY := Aside0.mk hy; clear hx hy; cases kj with
     | zero => exact absurd HJ.out (by omega)
     | succ kj =>
     cases x with
     | false =>
      go_wp2
      go_roundg kj
      case measure => omega
      case rel => exact ⟨j + 1, by simp, ⟨by have := HJ.out; omega⟩, ⟨by exact B1.out⟩, ⟨by exact B2.out⟩, ⟨by exact B3.out⟩, ⟨by rw [← Nat.add_assoc, reject_both_at_logic_And.cs_off hj (by rw [HX.out]; rfl)]; exact B4.out⟩, ⟨by exact HB.out⟩⟩
     | true =>
      cases y with
      | false =>
       go_wp2
       go_roundg kj
       case measure => omega
       case rel => exact ⟨j + 1, by simp, ⟨by have := HJ.out; omega⟩, ⟨by exact B1.out⟩, ⟨by exact B2.out⟩, ⟨by exact B3.out⟩, ⟨by rw [← Nat.add_assoc, reject_both_at_logic_And.cs_off hj (by rw [HX.out, HY.out]; rfl)]; exact B4.out⟩, ⟨by exact HB.out⟩⟩
      | true =>
       have HS := Aside0.mk (reject_both_at_logic_And.cs_on (a0 := a0_0) (a1 := a0_1) (a2 := a0_2) (b0 := a1_0) (b1 := a1_1) (b2 := a1_2) hi hj (by rw [HX.out, HY.out]; rfl)); have HM := Aside0.mk (reject_both_at_logic_And.m_f hi hj); obtain ⟨tt, htt⟩ : ∃ tt, reject_both_at_logic_And.m i j = tt := ⟨_, rfl⟩; have ht3 : tt < 3 := by rw [← htt]; exact reject_both_at_logic_And.m_lt hi hj
       have lt3 : (tt : Int) < 3 := by omega
       rw [htt] at HS HM; clear htt
       go_wp2_with (first
        | ((with_reducible refine gate_dst (N := 27) rfl ?_); refine Kd.R_lit (Kd.int .i64) _ 3 ?hg (N := 27) ?hd (xs := ([(i : Int), (j : Int)] : List Int)) (inner := [.int .i64 (i : Int), .int .i64 (j : Int)]) (ok := fun _ => True) (okp := fun _ => True) ?hr ?hp (fun _ hk => hk) trivial (Below.refl _ _) (Nat.le_refl _) (by simp) ?_; (case hd => rfl); (case hg => rfl); (case hr => first | (go_simp; done) | (go_simp; rfl)); (case hp => exact (Reps.one (show Kd.M (Kd.int .i64) _ _ _ (i : Int) [.int .i64 (i : Int)] from rfl) (Reps.one (show Kd.M (Kd.int .i64) _ _ _ (j : Int) [.int .i64 (j : Int)] from rfl) (Reps.none _ _)))); intro v168 w23 ho24 hb hg_ hnew_; clear hg_ hnew_; have HO := Aside0.mk (Kd.R_lower ho24 (below_size HB.out)); have C1 := Aside0.mk (blk_below B1.out hb); have C2 := Aside0.mk (blk_below B2.out hb); have C3 := Aside0.mk (blk_below B3.out hb); have C4 := Aside0.mk (blk_below B4.out hb); have HB' := Aside0.mk (below_step HB.out hb); clear hb ho24; obtain ⟨Ao, co, eo⟩ := Kd.R_slice HO.out; subst eo)
        | ((with_reducible refine gate_calleev (t := 24) rfl ?_); refine goesV_ (caps := #[]) (some 28) rfl rfl Try.func60 (by kernel_rfl) rfl #[.slice Ao ([(i : Int), (j : Int)] : List Int).length co] rfl rfl (by (try simp only [List.map_toArray, List.map_cons, List.map_nil]); first | done | rfl | (simp only [List.length_drop, List.length_take]; rfl)) ?_; (with_reducible refine (logic_And.calls 9 _ _ ([(i : Int), (j : Int)] : List Int) (tt : Int) _ ?side1 ?side2 HM.out).mono ?_); (case side1 => exact (Kd.R_reads' HO.out).2.2); (case side2 => exact (Kd.R_reads' HO.out).2.1); rintro e w26 ⟨rfl, hb⟩; refine ⟨_, rfl, ?_⟩; have D1 := Aside0.mk (blk_below C1.out hb); have D2 := Aside0.mk (blk_below C2.out hb); have D3 := Aside0.mk (blk_below C3.out hb); have D4 := Aside0.mk (blk_below C4.out hb); have HB2 := Aside0.mk (below_step HB'.out hb); have h4 := reject_both_at_logic_And.sel_cell D4.out ht3; have f4 := blk_frozen D4.out tt; clear hb))
       go_roundg kj
       case measure => omega
       case rel => exact ⟨j + 1, by simp, ⟨by have := HJ.out; omega⟩, ⟨by exact blk_far D1.out N14.out _⟩, ⟨by exact blk_far D2.out N24.out _⟩, ⟨by exact blk_far D3.out N34.out _⟩, ⟨by rw [← Nat.add_assoc, ← HS.out]; exact blk_set D4.out _ _⟩, ⟨by exact below_set HB2.out G4.out⟩⟩
    ·obtain rfl : j = 3 := by have := HJ.out; omega
     go_wp2
     go_roundg ki
     case measure => omega
     case rel => exact ⟨i + 1, by simp, ⟨by have := HI.out; omega⟩, ⟨by exact B1.out⟩, ⟨by exact B2.out⟩, ⟨by exact B3.out⟩, ⟨by exact B4.out⟩, ⟨by exact HB.out⟩⟩
  ·obtain rfl : i = 3 := by have := HI.out; omega
   have e := HR.out; simp only [Prod.mk.injEq] at e; have h0 : wr.cell? ⟨g4, 0, none⟩ = some (.bool r1) := by rw [← e.1]; exact (blk_cell B4.out 0).trans rfl
   have h1 : wr.cell? ⟨g4, 1, none⟩ = some (.bool r2) := by rw [← e.2.1]; exact (blk_cell B4.out 1).trans rfl
   have h2 : wr.cell? ⟨g4, 2, none⟩ = some (.bool r3) := by rw [← e.2.2]; exact (blk_cell B4.out 2).trans rfl
   have q3 := blk_cell B3.out; have f3 := blk_frozen B3.out; clear e; go_wp2; refine bodyPost_ret (results_cell_row rfl _ _ g3 39 #[.bool r1, .bool r2, .bool r3] (0, 0) _ rfl (by refine blk_put (cs := #[.bool r1, .bool r2, .bool false]) ?_ 2 _ rfl; refine blk_put (cs := #[.bool r1, .bool false, .bool false]) ?_ 1 _ rfl; refine blk_put (cs := #[.bool false, .bool false, .bool false]) ?_ 0 _ rfl; exact B3.out) Try.underlying39 rfl (by kernel_rfl)) rfl ?_; exact ⟨rfl, below_set (below_set (below_set HB.out G3.out) G3.out) G3.out⟩

/-! ### reject_May: function 26 -/
mutual
def reject_May.j0 : Nat → Int → Int → Bool → Int → Int → Int → Int → Int → Int → Bool → Int → Int → Int → Int → Bool → Int → List (S46) → Option (Bool × Bool × Bool)
 | 0, _, _, _, _, _, _, _, _, _, _, _, _, _, _, _, _, _ => none
 | k + 1, x1, x11, x34, x196000, x196001, x196002, x196003, x196004, x196005, x196006, x196007, x196008, x196009, x196010, x196011, x196012, x196013 => if x34 = true then ((reject_only.f k 2).bind fun bt207 => (if x196000 = 5 then ((reject_only.f k 0).bind fun bt211 => (reject_May.l0 k x1 x196013 (x196013.length : Int) 0 bt211.1 bt211.2.1 bt211.2.2)) else (reject_May.l101 k x1 x196013 (x196013.length : Int) 0 bt207.1 bt207.2.1 bt207.2.2))) else (if x11 = 6 then (if (x196013.length : Int) > 0 then (if 0 < (x196013.length : Int) then ((reject_May.f k ((rd_T46 x196013 0).f0) ((rd_T46 x196013 0).f1) ((rd_T46 x196013 0).f2) ((rd_T46 x196013 0).f3.f0) ((rd_T46 x196013 0).f3.f1) ((rd_T46 x196013 0).f3.f2) ((rd_T46 x196013 0).f3.f3.f0) ((rd_T46 x196013 0).f3.f3.f1) ((rd_T46 x196013 0).f4.f0) ((rd_T46 x196013 0).f4.f1) ((rd_T46 x196013 0).f4.f2) ((rd_T46 x196013 0).f4.f3.f0) ((rd_T46 x196013 0).f4.f3.f1) ((rd_T46 x196013 0).f5) x1).bind fun bt231 => (some (bt231.2.2, bt231.2.1, bt231.1))) else (none)) else ((reject_only.f k 1).bind fun bt235 => (some (bt235.1, bt235.2.1, bt235.2.2)))) else ((reject_only.f k 1).bind fun bt238 => (some (bt238.1, bt238.2.1, bt238.2.2))))
def reject_May.l0 : Nat → Int → List (S46) → Int → Int → Bool → Bool → Bool → Option (Bool × Bool × Bool)
 | 0, _, _, _, _, _, _, _ => none
 | k + 1, x1, x43, x44, x45, x211000, x211001, x211002 => if x45 < x44 then (if 0 ≤ x45 then (if x45 < (x43.length : Int) then ((reject_May.f k ((rd_T46 x43 x45).f0) ((rd_T46 x43 x45).f1) ((rd_T46 x43 x45).f2) ((rd_T46 x43 x45).f3.f0) ((rd_T46 x43 x45).f3.f1) ((rd_T46 x43 x45).f3.f2) ((rd_T46 x43 x45).f3.f3.f0) ((rd_T46 x43 x45).f3.f3.f1) ((rd_T46 x43 x45).f4.f0) ((rd_T46 x43 x45).f4.f1) ((rd_T46 x43 x45).f4.f2) ((rd_T46 x43 x45).f4.f3.f0) ((rd_T46 x43 x45).f4.f3.f1) ((rd_T46 x43 x45).f5) x1).bind fun bt216 => ((reject_both_at_logic_Or.f k x211000 x211001 x211002 bt216.1 bt216.2.1 bt216.2.2).bind fun bt219 => (reject_May.l0 k x1 x43 x44 (wrap64 (x45 + 1)) bt219.1 bt219.2.1 bt219.2.2))) else (none)) else (none)) else (some (x211000, x211001, x211002))
def reject_May.l101 : Nat → Int → List (S46) → Int → Int → Bool → Bool → Bool → Option (Bool × Bool × Bool)
 | 0, _, _, _, _, _, _, _ => none
 | k + 1, x1, x43, x44, x45, x211000, x211001, x211002 => if x45 < x44 then (if 0 ≤ x45 then (if x45 < (x43.length : Int) then ((reject_May.f k ((rd_T46 x43 x45).f0) ((rd_T46 x43 x45).f1) ((rd_T46 x43 x45).f2) ((rd_T46 x43 x45).f3.f0) ((rd_T46 x43 x45).f3.f1) ((rd_T46 x43 x45).f3.f2) ((rd_T46 x43 x45).f3.f3.f0) ((rd_T46 x43 x45).f3.f3.f1) ((rd_T46 x43 x45).f4.f0) ((rd_T46 x43 x45).f4.f1) ((rd_T46 x43 x45).f4.f2) ((rd_T46 x43 x45).f4.f3.f0) ((rd_T46 x43 x45).f4.f3.f1) ((rd_T46 x43 x45).f5) x1).bind fun bt224 => ((reject_both_at_logic_And.f k x211000 x211001 x211002 bt224.1 bt224.2.1 bt224.2.2).bind fun bt227 => (reject_May.l101 k x1 x43 x44 (wrap64 (x45 + 1)) bt227.1 bt227.2.1 bt227.2.2))) else (none)) else (none)) else (some (x211000, x211001, x211002))
def reject_May.f : Nat → Int → Int → Int → Int → Int → Int → Bool → Int → Int → Int → Int → Bool → Int → List (S46) → Int → Option (Bool × Bool × Bool)
 | 0, _, _, _, _, _, _, _, _, _, _, _, _, _, _, _ => none
 | k + 1, a0_0, a0_1, a0_2, a0_3, a0_4, a0_5, a0_6, a0_7, a0_8, a0_9, a0_10, a0_11, a0_12, l0_13, a1 => if a0_0 = 1 then ((reject_only.f k a0_1).bind fun bt197 => (some (bt197.1, bt197.2.1, bt197.2.2))) else (if a0_0 = 2 then ((reject_compares.f k a0_0 a0_1 a0_2 a0_3 a0_4 a0_5 a0_6 a0_7 a0_8 a0_9 a0_10 a0_11 a0_12 l0_13 a1).bind fun bt200 => (some (bt200.1, bt200.2.1, bt200.2.2))) else (if a0_0 = 3 then ((reject_isNull.f a0_3 a0_4 a0_5 a0_6 a0_7 a1).bind fun t203 => (if t203 = true then ((reject_only.f k 2).bind fun bt204 => (some (bt204.1, bt204.2.1, bt204.2.2))) else (some (true, false, (a0_3 == 1))))) else (if a0_0 = 4 then (reject_May.j0 k a1 a0_0 (a0_0 == 4) a0_0 a0_1 a0_2 a0_3 a0_4 a0_5 a0_6 a0_7 a0_8 a0_9 a0_10 a0_11 a0_12 l0_13) else (reject_May.j0 k a1 a0_0 (a0_0 == 5) a0_0 a0_1 a0_2 a0_3 a0_4 a0_5 a0_6 a0_7 a0_8 a0_9 a0_10 a0_11 a0_12 l0_13))))
end
theorem reject_May.mono_l : ∀ k, (∀ y0 y1 y2 y3 y4 y5 y6 y7 y8 y9 y10 y11 y12 y13 y14, LeO (reject_May.f k y0 y1 y2 y3 y4 y5 y6 y7 y8 y9 y10 y11 y12 y13 y14) (reject_May.f (k + 1) y0 y1 y2 y3 y4 y5 y6 y7 y8 y9 y10 y11 y12 y13 y14)) ∧ (∀ y0 y1 y2 y3 y4 y5 y6 y7 y8 y9 y10 y11 y12 y13 y14 y15 y16, LeO (reject_May.j0 k y0 y1 y2 y3 y4 y5 y6 y7 y8 y9 y10 y11 y12 y13 y14 y15 y16) (reject_May.j0 (k + 1) y0 y1 y2 y3 y4 y5 y6 y7 y8 y9 y10 y11 y12 y13 y14 y15 y16)) ∧ (∀ y0 y1 y2 y3 y4 y5 y6, LeO (reject_May.l0 k y0 y1 y2 y3 y4 y5 y6) (reject_May.l0 (k + 1) y0 y1 y2 y3 y4 y5 y6)) ∧ (∀ y0 y1 y2 y3 y4 y5 y6, LeO (reject_May.l101 k y0 y1 y2 y3 y4 y5 y6) (reject_May.l101 (k + 1) y0 y1 y2 y3 y4 y5 y6))
 | 0 => ⟨fun _ _ _ _ _ _ _ _ _ _ _ _ _ _ _ r h => by simp [reject_May.f] at h, fun _ _ _ _ _ _ _ _ _ _ _ _ _ _ _ _ _ r h => by simp [reject_May.j0] at h, fun _ _ _ _ _ _ _ r h => by simp [reject_May.l0] at h, fun _ _ _ _ _ _ _ r h => by simp [reject_May.l101] at h⟩
 | k + 1 => by
  obtain ⟨ih0, ih1, ih2, ih3⟩ := reject_May.mono_l k; refine ⟨?_, ?_, ?_, ?_⟩
  ·intro y0 y1 y2 y3 y4 y5 y6 y7 y8 y9 y10 y11 y12 y13 y14
   unfold reject_May.f
   repeat' first
   | (with_reducible exact ih0 _ _ _ _ _ _ _ _ _ _ _ _ _ _ _)
   | (with_reducible exact ih1 _ _ _ _ _ _ _ _ _ _ _ _ _ _ _ _ _)
   | (with_reducible exact ih2 _ _ _ _ _ _ _)
   | (with_reducible exact ih3 _ _ _ _ _ _ _)
   | (with_reducible exact reject_both_at_logic_And.mono _ _ _ _ _ _ _)
   | (with_reducible exact reject_both_at_logic_Or.mono _ _ _ _ _ _ _)
   | (with_reducible exact reject_compares.mono _ _ _ _ _ _ _ _ _ _ _ _ _ _ _ _)
   | (with_reducible exact reject_only.mono _ _)
   | (with_reducible exact LeO.refl _)
   | (with_reducible exact LeO.none _)
   | (with_reducible refine LeO.ite ?_ ?_)
   | (with_reducible refine LeO.bind ?_ (fun _ => ?_))
   | exact ih0 _ _ _ _ _ _ _ _ _ _ _ _ _ _ _
   | exact ih1 _ _ _ _ _ _ _ _ _ _ _ _ _ _ _ _ _
   | exact ih2 _ _ _ _ _ _ _
   | exact ih3 _ _ _ _ _ _ _
   | exact reject_both_at_logic_And.mono _ _ _ _ _ _ _
   | exact reject_both_at_logic_Or.mono _ _ _ _ _ _ _
   | exact reject_compares.mono _ _ _ _ _ _ _ _ _ _ _ _ _ _ _ _
   | exact reject_only.mono _ _
   | exact LeO.none _
   | refine LeO.ite ?_ ?_
   | refine LeO.bind ?_ (fun _ => ?_)
  ·intro y0 y1 y2 y3 y4 y5 y6 y7 y8 y9 y10 y11 y12 y13 y14 y15 y16
   unfold reject_May.j0
   repeat' first
   | (with_reducible exact ih0 _ _ _ _ _ _ _ _ _ _ _ _ _ _ _)
   | (with_reducible exact ih1 _ _ _ _ _ _ _ _ _ _ _ _ _ _ _ _ _)
   | (with_reducible exact ih2 _ _ _ _ _ _ _)
   | (with_reducible exact ih3 _ _ _ _ _ _ _)
   | (with_reducible exact reject_both_at_logic_And.mono _ _ _ _ _ _ _)
   | (with_reducible exact reject_both_at_logic_Or.mono _ _ _ _ _ _ _)
   | (with_reducible exact reject_compares.mono _ _ _ _ _ _ _ _ _ _ _ _ _ _ _ _)
   | (with_reducible exact reject_only.mono _ _)
   | (with_reducible exact LeO.refl _)
   | (with_reducible exact LeO.none _)
   | (with_reducible refine LeO.ite ?_ ?_)
   | (with_reducible refine LeO.bind ?_ (fun _ => ?_))
   | exact ih0 _ _ _ _ _ _ _ _ _ _ _ _ _ _ _
   | exact ih1 _ _ _ _ _ _ _ _ _ _ _ _ _ _ _ _ _
   | exact ih2 _ _ _ _ _ _ _
   | exact ih3 _ _ _ _ _ _ _
   | exact reject_both_at_logic_And.mono _ _ _ _ _ _ _
   | exact reject_both_at_logic_Or.mono _ _ _ _ _ _ _
   | exact reject_compares.mono _ _ _ _ _ _ _ _ _ _ _ _ _ _ _ _
   | exact reject_only.mono _ _
   | exact LeO.none _
   | refine LeO.ite ?_ ?_
   | refine LeO.bind ?_ (fun _ => ?_)
  ·intro y0 y1 y2 y3 y4 y5 y6
   unfold reject_May.l0
   repeat' first
   | (with_reducible exact ih0 _ _ _ _ _ _ _ _ _ _ _ _ _ _ _)
   | (with_reducible exact ih1 _ _ _ _ _ _ _ _ _ _ _ _ _ _ _ _ _)
   | (with_reducible exact ih2 _ _ _ _ _ _ _)
   | (with_reducible exact ih3 _ _ _ _ _ _ _)
   | (with_reducible exact reject_both_at_logic_And.mono _ _ _ _ _ _ _)
   | (with_reducible exact reject_both_at_logic_Or.mono _ _ _ _ _ _ _)
   | (with_reducible exact reject_compares.mono _ _ _ _ _ _ _ _ _ _ _ _ _ _ _ _)
   | (with_reducible exact reject_only.mono _ _)
   | (with_reducible exact LeO.refl _)
   | (with_reducible exact LeO.none _)
   | (with_reducible refine LeO.ite ?_ ?_)
   | (with_reducible refine LeO.bind ?_ (fun _ => ?_))
   | exact ih0 _ _ _ _ _ _ _ _ _ _ _ _ _ _ _
   | exact ih1 _ _ _ _ _ _ _ _ _ _ _ _ _ _ _ _ _
   | exact ih2 _ _ _ _ _ _ _
   | exact ih3 _ _ _ _ _ _ _
   | exact reject_both_at_logic_And.mono _ _ _ _ _ _ _
   | exact reject_both_at_logic_Or.mono _ _ _ _ _ _ _
   | exact reject_compares.mono _ _ _ _ _ _ _ _ _ _ _ _ _ _ _ _
   | exact reject_only.mono _ _
   | exact LeO.none _
   | refine LeO.ite ?_ ?_
   | refine LeO.bind ?_ (fun _ => ?_)
  ·intro y0 y1 y2 y3 y4 y5 y6
   unfold reject_May.l101
   repeat' first
   | (with_reducible exact ih0 _ _ _ _ _ _ _ _ _ _ _ _ _ _ _)
   | (with_reducible exact ih1 _ _ _ _ _ _ _ _ _ _ _ _ _ _ _ _ _)
   | (with_reducible exact ih2 _ _ _ _ _ _ _)
   | (with_reducible exact ih3 _ _ _ _ _ _ _)
   | (with_reducible exact reject_both_at_logic_And.mono _ _ _ _ _ _ _)
   | (with_reducible exact reject_both_at_logic_Or.mono _ _ _ _ _ _ _)
   | (with_reducible exact reject_compares.mono _ _ _ _ _ _ _ _ _ _ _ _ _ _ _ _)
   | (with_reducible exact reject_only.mono _ _)
   | (with_reducible exact LeO.refl _)
   | (with_reducible exact LeO.none _)
   | (with_reducible refine LeO.ite ?_ ?_)
   | (with_reducible refine LeO.bind ?_ (fun _ => ?_))
   | exact ih0 _ _ _ _ _ _ _ _ _ _ _ _ _ _ _
   | exact ih1 _ _ _ _ _ _ _ _ _ _ _ _ _ _ _ _ _
   | exact ih2 _ _ _ _ _ _ _
   | exact ih3 _ _ _ _ _ _ _
   | exact reject_both_at_logic_And.mono _ _ _ _ _ _ _
   | exact reject_both_at_logic_Or.mono _ _ _ _ _ _ _
   | exact reject_compares.mono _ _ _ _ _ _ _ _ _ _ _ _ _ _ _ _
   | exact reject_only.mono _ _
   | exact LeO.none _
   | refine LeO.ite ?_ ?_
   | refine LeO.bind ?_ (fun _ => ?_)
theorem reject_May.mono : ∀ a0 a1 a2 a3 a4 a5 a6 a7 a8 a9 a10 a11 a12 a13 a14 k, LeO (reject_May.f k a0 a1 a2 a3 a4 a5 a6 a7 a8 a9 a10 a11 a12 a13 a14) (reject_May.f (k + 1) a0 a1 a2 a3 a4 a5 a6 a7 a8 a9 a10 a11 a12 a13 a14) := by
 intro a0 a1 a2 a3 a4 a5 a6 a7 a8 a9 a10 a11 a12 a13 a14 k; obtain ⟨ih0, ih1, ih2, ih3⟩ := reject_May.mono_l k; exact ih0 a0 a1 a2 a3 a4 a5 a6 a7 a8 a9 a10 a11 a12 a13 a14
set_option maxHeartbeats 8000000 in
set_option maxRecDepth 100000 in
theorem reject_May.calls (k : Nat) : ∀ (a0_0 : Int) (a0_1 : Int) (a0_2 : Int) (a0_3 : Int) (a0_4 : Int) (a0_5 : Int) (a0_6 : Bool) (a0_7 : Int) (a0_8 : Int) (a0_9 : Int) (a0_10 : Int) (a0_11 : Bool) (a0_12 : Int) (A0_13 : Option Addr) (c0_13 : Nat) (l0_13 : List (S46)) (a1 : Int) (r1 : Bool) (r2 : Bool) (r3 : Bool) (w : World) (hr0_13 : Kd.C k46 w A0_13 l0_13.length l0_13) (hc0_13 : l0_13.length ≤ c0_13) (h : reject_May.f k a0_0 a0_1 a0_2 a0_3 a0_4 a0_5 a0_6 a0_7 a0_8 a0_9 a0_10 a0_11 a0_12 l0_13 a1 = some (r1, r2, r3)),
  Calls Try.prog 26 #[.agg #[.int .i64 a0_0, .int .i64 a0_1, .int .i64 a0_2, .int .i64 a0_3, .int .i64 a0_4, .int .i64 a0_5, .bool a0_6, .int .i64 a0_7, .int .i64 a0_8, .int .i64 a0_9, .int .i64 a0_10, .bool a0_11, .int .i64 a0_12, .slice A0_13 l0_13.length c0_13], .int .u64 a1] w fun e w' => e = .returned (.agg #[.bool r1, .bool r2, .bool r3]) ∧ Below w.heap.size w w' := by
 induction k using Nat.strongRecOn with
 | _ k ih =>
 intro a0_0 a0_1 a0_2 a0_3 a0_4 a0_5 a0_6 a0_7 a0_8 a0_9 a0_10 a0_11 a0_12 A0_13 c0_13 l0_13 a1 r1 r2 r3 w hr0_13 hc0_13 h; cases k with
 | zero => exact absurd h (by simp [reject_May.f])
 | succ k =>
 simp only [reject_May.f] at h; have hu46 := Try.underlying46; have hu39 := Try.underlying39; have hu44 := Try.underlying44; have HR0_13 := Aside0.mk hr0_13; have HC0_13 := Aside0.mk hc0_13; clear hr0_13 hc0_13; have HB := Aside0.mk (Below.refl w.heap.size w); have H : (if a0_0 = 1 then ((reject_only.f k a0_1).bind fun bt197 => (some (bt197.1, bt197.2.1, bt197.2.2))) else (if a0_0 = 2 then ((reject_compares.f k a0_0 a0_1 a0_2 a0_3 a0_4 a0_5 a0_6 a0_7 a0_8 a0_9 a0_10 a0_11 a0_12 l0_13 a1).bind fun bt200 => (some (bt200.1, bt200.2.1, bt200.2.2))) else (if a0_0 = 3 then ((reject_isNull.f a0_3 a0_4 a0_5 a0_6 a0_7 a1).bind fun t203 => (if t203 = true then ((reject_only.f k 2).bind fun bt204 => (some (bt204.1, bt204.2.1, bt204.2.2))) else (some (true, false, (a0_3 == 1))))) else (if a0_0 = 4 then (reject_May.j0 k a1 a0_0 (a0_0 == 4) a0_0 a0_1 a0_2 a0_3 a0_4 a0_5 a0_6 a0_7 a0_8 a0_9 a0_10 a0_11 a0_12 l0_13) else (reject_May.j0 k a1 a0_0 (a0_0 == 5) a0_0 a0_1 a0_2 a0_3 a0_4 a0_5 a0_6 a0_7 a0_8 a0_9 a0_10 a0_11 a0_12 l0_13))))) = some (r1, r2, r3) := h; clear h; by_cases c3 : a0_0 = 1
 ·rw [if_pos c3] at H
  have c3b0 : (a0_0 == 1) = true := beq_iff_eq.mpr c3; have c3b1 : (a0_0 != 1) = false := bne_eq_false_iff_eq.mpr c3; clear c3; replace H := Option.bind_eq_some_iff.mp H; obtain ⟨⟨t197, t198, t199⟩, A40, H⟩ := H; replace H : (some (t197, t198, t199)) = some (r1, r2, r3) := H; have A4 := Aside0.mk A40; clear A40; simp only [Option.some.injEq, Prod.mk.injEq] at H; obtain ⟨rfl, rfl, rfl⟩ := H; go_enter Try.func26, Try.ntmps26
  go_wp2_with (first | ((with_reducible refine gate_dst (N := 2) rfl ?_); refine box_event ?hg (N := 2) ?hd (cs := #[.int .i64 a0_0, .int .i64 a0_1, .int .i64 a0_2, .int .i64 a0_3, .int .i64 a0_4, .int .i64 a0_5, .bool a0_6, .int .i64 a0_7, .int .i64 a0_8, .int .i64 a0_9, .int .i64 a0_10, .bool a0_11, .int .i64 a0_12, .slice A0_13 l0_13.length c0_13]) (t := 46) ?hr ?_; (case hd => rfl); (case hg => rfl); (case hr => first | (go_simp; done) | (go_simp; rfl)); intro gb195 hg w5 hbox hb; have BK195 := Aside0.mk (hbox); have GW195 := Aside0.mk ((by rw [hg]; exact (below_size (bl_ HB.out)) : w.heap.size ≤ gb195)); replace HB := bs_ HB hb; have GE195 := GW195; clear hb hbox hg) | ((with_reducible refine gate_dst (N := 4) rfl ?_); refine box_event ?hg (N := 4) ?hd (cs := #[.bool false, .bool false, .bool false]) (t := 39) ?hr ?_; (case hd => rfl); (case hg => rfl); (case hr => first | (go_simp; done) | (go_simp; rfl)); intro gb196 hg w6 hbox hb; have BK196 := Aside0.mk (hbox); have GW196 := Aside0.mk ((by rw [hg]; exact (below_size (bl1_ HB.out GE195.out)) : w.heap.size ≤ gb196)); replace HB := bs1_ HB GE195 hb; have GE196 := GW196; have NB195_196 := Aside0.mk ((by rw [hg]; exact Nat.ne_of_lt (blk_lt (bk_ BK195.out)) : gb195 ≠ gb196)); have NB196_195 := Aside0.mk ((by rw [hg]; exact Nat.ne_of_gt (blk_lt (bk_ BK195.out)) : gb196 ≠ gb195)); replace BK195 := bb_ BK195 hb; clear hb hbox hg; have hnb7 := NB195_196.out; have hnc7 := NB196_195.out; have hcz8 := blk_cell BK195.out; have hfz8 := blk_frozen BK195.out; have hfz8_13 := blk_frozen BK195.out 13) | ((with_reducible refine gate_callee (f := 57) rfl ?_); refine goesL_ (some 16) rfl rfl Try.func57 (by kernel_rfl) rfl #[.int .i64 a0_1] rfl (by (try simp only [List.map_toArray, List.map_cons, List.map_nil]); first | done | rfl | (simp only [List.length_drop, List.length_take]; rfl)) ?_; (with_reducible refine (reject_only.calls k a0_1 t197 t198 t199 _ A4.out).mono ?_); rintro e w9 ⟨rfl, hb⟩; refine ⟨_, rfl, ?_⟩; replace BK195 := bb_ BK195 hb; replace BK196 := bb_ BK196 hb; replace HB := bs2_ HB GE195 GE196 hb; (try clear hb); have hcz10 := blk_cell BK196.out; have hfz10_0 := blk_frozen BK196.out 0; have hfz10_1 := blk_frozen BK196.out 1; have hfz10_2 := blk_frozen BK196.out 2))
  refine bodyPost_ret (results_cell_row rfl _ _ gb196 39 #[.bool t197, .bool t198, .bool t199] (0, 0) _ rfl (by (with_reducible repeat (first | refine blk_drewN ?_ _ | refine blk_drew ?_ | refine blk_alloc ?_ _)); refine blk_put (cs := #[.bool t197, .bool t198, .bool false]) ?_ 2 _ rfl; (with_reducible repeat (first | refine blk_drewN ?_ _ | refine blk_drew ?_ | refine blk_alloc ?_ _)); refine blk_put (cs := #[.bool t197, .bool false, .bool false]) ?_ 1 _ rfl; (with_reducible repeat (first | refine blk_drewN ?_ _ | refine blk_drew ?_ | refine blk_alloc ?_ _)); refine blk_put (cs := #[.bool false, .bool false, .bool false]) ?_ 0 _ rfl; (with_reducible repeat (first | refine blk_drewN ?_ _ | refine blk_drew ?_ | refine blk_alloc ?_ _)); exact BK196.out) Try.underlying39 rfl (by kernel_rfl)) rfl ?_; exact ⟨rr_, bl2_ HB.out GE195.out GE196.out⟩
 ·rw [if_neg c3] at H
  have c3b0 : (a0_0 == 1) = false := beq_eq_false_iff_ne.mpr c3; have c3b1 : (a0_0 != 1) = true := bne_iff_ne.mpr c3; by_cases c11 : a0_0 = 2
  ·rw [if_pos c11] at H
   have c11b0 : (a0_0 == 2) = true := beq_iff_eq.mpr c11; have c11b1 : (a0_0 != 2) = false := bne_eq_false_iff_eq.mpr c11; clear c11; replace H := Option.bind_eq_some_iff.mp H; obtain ⟨⟨t200, t201, t202⟩, A120, H⟩ := H; replace H : (some (t200, t201, t202)) = some (r1, r2, r3) := H; have A12 := Aside0.mk A120; clear A120; simp only [Option.some.injEq, Prod.mk.injEq] at H; obtain ⟨rfl, rfl, rfl⟩ := H; go_enter Try.func26, Try.ntmps26
   go_wp2_with (first | ((with_reducible refine gate_dst (N := 2) rfl ?_); refine box_event ?hg (N := 2) ?hd (cs := #[.int .i64 a0_0, .int .i64 a0_1, .int .i64 a0_2, .int .i64 a0_3, .int .i64 a0_4, .int .i64 a0_5, .bool a0_6, .int .i64 a0_7, .int .i64 a0_8, .int .i64 a0_9, .int .i64 a0_10, .bool a0_11, .int .i64 a0_12, .slice A0_13 l0_13.length c0_13]) (t := 46) ?hr ?_; (case hd => rfl); (case hg => rfl); (case hr => first | (go_simp; done) | (go_simp; rfl)); intro gb195 hg w13 hbox hb; have BK195 := Aside0.mk (hbox); have GW195 := Aside0.mk ((by rw [hg]; exact (below_size (bl_ HB.out)) : w.heap.size ≤ gb195)); replace HB := bs_ HB hb; have GE195 := GW195; clear hb hbox hg) | ((with_reducible refine gate_dst (N := 4) rfl ?_); refine box_event ?hg (N := 4) ?hd (cs := #[.bool false, .bool false, .bool false]) (t := 39) ?hr ?_; (case hd => rfl); (case hg => rfl); (case hr => first | (go_simp; done) | (go_simp; rfl)); intro gb196 hg w14 hbox hb; have BK196 := Aside0.mk (hbox); have GW196 := Aside0.mk ((by rw [hg]; exact (below_size (bl1_ HB.out GE195.out)) : w.heap.size ≤ gb196)); replace HB := bs1_ HB GE195 hb; have GE196 := GW196; have NB195_196 := Aside0.mk ((by rw [hg]; exact Nat.ne_of_lt (blk_lt (bk_ BK195.out)) : gb195 ≠ gb196)); have NB196_195 := Aside0.mk ((by rw [hg]; exact Nat.ne_of_gt (blk_lt (bk_ BK195.out)) : gb196 ≠ gb195)); replace BK195 := bb_ BK195 hb; clear hb hbox hg; have hnb15 := NB195_196.out; have hnc15 := NB196_195.out; have hcz16 := blk_cell BK195.out; have hfz16 := blk_frozen BK195.out; have hfz16_13 := blk_frozen BK195.out 13) | ((with_reducible refine gate_callee (f := 58) rfl ?_); refine goesL_ (some 21) rfl rfl Try.func58 (by kernel_rfl) rfl #[.agg #[.int .i64 a0_0, .int .i64 a0_1, .int .i64 a0_2, .int .i64 a0_3, .int .i64 a0_4, .int .i64 a0_5, .bool a0_6, .int .i64 a0_7, .int .i64 a0_8, .int .i64 a0_9, .int .i64 a0_10, .bool a0_11, .int .i64 a0_12, .slice A0_13 l0_13.length c0_13], .int .u64 a1] rfl (by (try simp only [List.map_toArray, List.map_cons, List.map_nil]); first | done | rfl | (simp only [List.length_drop, List.length_take]; rfl)) ?_; (with_reducible refine (reject_compares.calls k a0_0 a0_1 a0_2 a0_3 a0_4 a0_5 a0_6 a0_7 a0_8 a0_9 a0_10 a0_11 a0_12 _ _ l0_13 a1 t200 t201 t202 _ ?side1 ?side2 A12.out).mono ?_); (case side1 => exact cd_ (Kd.C_below HR0_13.out HB.out)); (case side2 => exact HC0_13.out); rintro e w17 ⟨rfl, hb⟩; refine ⟨_, rfl, ?_⟩; replace BK195 := bb_ BK195 hb; replace BK196 := bb_ BK196 hb; replace HB := bs2_ HB GE195 GE196 hb; (try clear hb); have hcz18 := blk_cell BK196.out; have hfz18_0 := blk_frozen BK196.out 0; have hfz18_1 := blk_frozen BK196.out 1; have hfz18_2 := blk_frozen BK196.out 2))
   refine bodyPost_ret (results_cell_row rfl _ _ gb196 39 #[.bool t200, .bool t201, .bool t202] (0, 0) _ rfl (by (with_reducible repeat (first | refine blk_drewN ?_ _ | refine blk_drew ?_ | refine blk_alloc ?_ _)); refine blk_put (cs := #[.bool t200, .bool t201, .bool false]) ?_ 2 _ rfl; (with_reducible repeat (first | refine blk_drewN ?_ _ | refine blk_drew ?_ | refine blk_alloc ?_ _)); refine blk_put (cs := #[.bool t200, .bool false, .bool false]) ?_ 1 _ rfl; (with_reducible repeat (first | refine blk_drewN ?_ _ | refine blk_drew ?_ | refine blk_alloc ?_ _)); refine blk_put (cs := #[.bool false, .bool false, .bool false]) ?_ 0 _ rfl; (with_reducible repeat (first | refine blk_drewN ?_ _ | refine blk_drew ?_ | refine blk_alloc ?_ _)); exact BK196.out) Try.underlying39 rfl (by kernel_rfl)) rfl ?_; exact ⟨rr_, bl2_ HB.out GE195.out GE196.out⟩
  ·rw [if_neg c11] at H
   have c11b0 : (a0_0 == 2) = false := beq_eq_false_iff_ne.mpr c11; have c11b1 : (a0_0 != 2) = true := bne_iff_ne.mpr c11; by_cases c19 : a0_0 = 3
   ·rw [if_pos c19] at H
    have c19b0 : (a0_0 == 3) = true := beq_iff_eq.mpr c19; have c19b1 : (a0_0 != 3) = false := bne_eq_false_iff_eq.mpr c19; clear c19; replace H := Option.bind_eq_some_iff.mp H; obtain ⟨t203, A200, H⟩ := H; replace H : (if t203 = true then ((reject_only.f k 2).bind fun bt204 => (some (bt204.1, bt204.2.1, bt204.2.2))) else (some (true, false, (a0_3 == 1)))) = some (r1, r2, r3) := H; have A20 := Aside0.mk A200; clear A200; by_cases c21 : t203 = true
    ·subst c21
     have H1 : ((reject_only.f k 2).bind fun bt204 => (some (bt204.1, bt204.2.1, bt204.2.2))) = some (r1, r2, r3) := by rw [if_pos rfl] at H; exact H
     clear H; have H := H1; clear H1; replace H := Option.bind_eq_some_iff.mp H; obtain ⟨⟨t204, t205, t206⟩, A220, H⟩ := H; replace H : (some (t204, t205, t206)) = some (r1, r2, r3) := H; have A22 := Aside0.mk A220; clear A220; simp only [Option.some.injEq, Prod.mk.injEq] at H; obtain ⟨rfl, rfl, rfl⟩ := H; go_enter Try.func26, Try.ntmps26
     go_wp2_with (first | ((with_reducible refine gate_dst (N := 2) rfl ?_); refine box_event ?hg (N := 2) ?hd (cs := #[.int .i64 a0_0, .int .i64 a0_1, .int .i64 a0_2, .int .i64 a0_3, .int .i64 a0_4, .int .i64 a0_5, .bool a0_6, .int .i64 a0_7, .int .i64 a0_8, .int .i64 a0_9, .int .i64 a0_10, .bool a0_11, .int .i64 a0_12, .slice A0_13 l0_13.length c0_13]) (t := 46) ?hr ?_; (case hd => rfl); (case hg => rfl); (case hr => first | (go_simp; done) | (go_simp; rfl)); intro gb195 hg w23 hbox hb; have BK195 := Aside0.mk (hbox); have GW195 := Aside0.mk ((by rw [hg]; exact (below_size (bl_ HB.out)) : w.heap.size ≤ gb195)); replace HB := bs_ HB hb; have GE195 := GW195; clear hb hbox hg) | ((with_reducible refine gate_dst (N := 4) rfl ?_); refine box_event ?hg (N := 4) ?hd (cs := #[.bool false, .bool false, .bool false]) (t := 39) ?hr ?_; (case hd => rfl); (case hg => rfl); (case hr => first | (go_simp; done) | (go_simp; rfl)); intro gb196 hg w24 hbox hb; have BK196 := Aside0.mk (hbox); have GW196 := Aside0.mk ((by rw [hg]; exact (below_size (bl1_ HB.out GE195.out)) : w.heap.size ≤ gb196)); replace HB := bs1_ HB GE195 hb; have GE196 := GW196; have NB195_196 := Aside0.mk ((by rw [hg]; exact Nat.ne_of_lt (blk_lt (bk_ BK195.out)) : gb195 ≠ gb196)); have NB196_195 := Aside0.mk ((by rw [hg]; exact Nat.ne_of_gt (blk_lt (bk_ BK195.out)) : gb196 ≠ gb195)); replace BK195 := bb_ BK195 hb; clear hb hbox hg; have hnb25 := NB195_196.out; have hnc25 := NB196_195.out; have hcz26 := blk_cell BK195.out; have hfz26 := blk_frozen BK195.out; have hfz26_13 := blk_frozen BK195.out 13) | ((with_reducible refine gate_callee (f := 59) rfl ?_); refine goesL_ (some 27) rfl rfl Try.func59 (by kernel_rfl) rfl #[.agg #[.int .i64 a0_3, .int .i64 a0_4, .int .i64 a0_5, .bool a0_6, .int .i64 a0_7], .int .u64 a1] rfl (by (try simp only [List.map_toArray, List.map_cons, List.map_nil]); first | done | rfl | (simp only [List.length_drop, List.length_take]; rfl)) ?_; (with_reducible refine (reject_isNull.calls a0_3 a0_4 a0_5 a0_6 a0_7 a1 true _ A20.out).mono ?_); rintro e w27 ⟨rfl, hb⟩; refine ⟨_, rfl, ?_⟩; replace BK195 := bb_ BK195 hb; replace BK196 := bb_ BK196 hb; replace HB := bs2_ HB GE195 GE196 hb; (try clear hb)) | ((with_reducible refine gate_callee (f := 57) rfl ?_); refine goesL_ (some 28) rfl rfl Try.func57 (by kernel_rfl) rfl #[.int .i64 2] rfl (by (try simp only [List.map_toArray, List.map_cons, List.map_nil]); first | done | rfl | (simp only [List.length_drop, List.length_take]; rfl)) ?_; (with_reducible refine (reject_only.calls k 2 t204 t205 t206 _ A22.out).mono ?_); rintro e w28 ⟨rfl, hb⟩; refine ⟨_, rfl, ?_⟩; replace BK195 := bb_ BK195 hb; replace BK196 := bb_ BK196 hb; replace HB := bs2_ HB GE195 GE196 hb; (try clear hb); have hcz29 := blk_cell BK196.out; have hfz29_0 := blk_frozen BK196.out 0; have hfz29_1 := blk_frozen BK196.out 1; have hfz29_2 := blk_frozen BK196.out 2))
     refine bodyPost_ret (results_cell_row rfl _ _ gb196 39 #[.bool t204, .bool t205, .bool t206] (0, 0) _ rfl (by (with_reducible repeat (first | refine blk_drewN ?_ _ | refine blk_drew ?_ | refine blk_alloc ?_ _)); refine blk_put (cs := #[.bool t204, .bool t205, .bool false]) ?_ 2 _ rfl; (with_reducible repeat (first | refine blk_drewN ?_ _ | refine blk_drew ?_ | refine blk_alloc ?_ _)); refine blk_put (cs := #[.bool t204, .bool false, .bool false]) ?_ 1 _ rfl; (with_reducible repeat (first | refine blk_drewN ?_ _ | refine blk_drew ?_ | refine blk_alloc ?_ _)); refine blk_put (cs := #[.bool false, .bool false, .bool false]) ?_ 0 _ rfl; (with_reducible repeat (first | refine blk_drewN ?_ _ | refine blk_drew ?_ | refine blk_alloc ?_ _)); exact BK196.out) Try.underlying39 rfl (by kernel_rfl)) rfl ?_; exact ⟨rr_, bl2_ HB.out GE195.out GE196.out⟩
    ·replace c21 := Bool.eq_false_iff.mpr c21
     subst c21; have H1 : (some (true, false, (a0_3 == 1))) = some (r1, r2, r3) := by rw [if_neg (show ¬ (false = true) by decide)] at H; exact H
     clear H; have H := H1; clear H1; simp only [Option.some.injEq, Prod.mk.injEq] at H; obtain ⟨rfl, rfl, rfl⟩ := H; go_enter Try.func26, Try.ntmps26
     go_wp2_with (first | ((with_reducible refine gate_dst (N := 2) rfl ?_); refine box_event ?hg (N := 2) ?hd (cs := #[.int .i64 a0_0, .int .i64 a0_1, .int .i64 a0_2, .int .i64 a0_3, .int .i64 a0_4, .int .i64 a0_5, .bool a0_6, .int .i64 a0_7, .int .i64 a0_8, .int .i64 a0_9, .int .i64 a0_10, .bool a0_11, .int .i64 a0_12, .slice A0_13 l0_13.length c0_13]) (t := 46) ?hr ?_; (case hd => rfl); (case hg => rfl); (case hr => first | (go_simp; done) | (go_simp; rfl)); intro gb195 hg w30 hbox hb; have BK195 := Aside0.mk (hbox); have GW195 := Aside0.mk ((by rw [hg]; exact (below_size (bl_ HB.out)) : w.heap.size ≤ gb195)); replace HB := bs_ HB hb; have GE195 := GW195; clear hb hbox hg) | ((with_reducible refine gate_dst (N := 4) rfl ?_); refine box_event ?hg (N := 4) ?hd (cs := #[.bool false, .bool false, .bool false]) (t := 39) ?hr ?_; (case hd => rfl); (case hg => rfl); (case hr => first | (go_simp; done) | (go_simp; rfl)); intro gb196 hg w31 hbox hb; have BK196 := Aside0.mk (hbox); have GW196 := Aside0.mk ((by rw [hg]; exact (below_size (bl1_ HB.out GE195.out)) : w.heap.size ≤ gb196)); replace HB := bs1_ HB GE195 hb; have GE196 := GW196; have NB195_196 := Aside0.mk ((by rw [hg]; exact Nat.ne_of_lt (blk_lt (bk_ BK195.out)) : gb195 ≠ gb196)); have NB196_195 := Aside0.mk ((by rw [hg]; exact Nat.ne_of_gt (blk_lt (bk_ BK195.out)) : gb196 ≠ gb195)); replace BK195 := bb_ BK195 hb; clear hb hbox hg; have hnb32 := NB195_196.out; have hnc32 := NB196_195.out; have hcz33 := blk_cell BK195.out; have hfz33 := blk_frozen BK195.out; have hfz33_13 := blk_frozen BK195.out 13) | ((with_reducible refine gate_callee (f := 59) rfl ?_); refine goesL_ (some 27) rfl rfl Try.func59 (by kernel_rfl) rfl #[.agg #[.int .i64 a0_3, .int .i64 a0_4, .int .i64 a0_5, .bool a0_6, .int .i64 a0_7], .int .u64 a1] rfl (by (try simp only [List.map_toArray, List.map_cons, List.map_nil]); first | done | rfl | (simp only [List.length_drop, List.length_take]; rfl)) ?_; (with_reducible refine (reject_isNull.calls a0_3 a0_4 a0_5 a0_6 a0_7 a1 false _ A20.out).mono ?_); rintro e w34 ⟨rfl, hb⟩; refine ⟨_, rfl, ?_⟩; replace BK195 := bb_ BK195 hb; replace BK196 := bb_ BK196 hb; replace HB := bs2_ HB GE195 GE196 hb; (try clear hb); have hcz35 := blk_cell BK195.out; have hfz35 := blk_frozen BK195.out; have hcz36 := blk_cell BK196.out; have hfz36_0 := blk_frozen BK196.out 0; have hfz36_1 := blk_frozen BK196.out 1; have hfz36_2 := blk_frozen BK196.out 2))
     refine bodyPost_ret (results_cell_row rfl _ _ gb196 39 #[.bool true, .bool false, .bool (a0_3 == 1)] (0, 0) _ rfl (by (with_reducible repeat (first | refine blk_drewN ?_ _ | refine blk_drew ?_ | refine blk_alloc ?_ _)); refine blk_put (cs := #[.bool true, .bool false, .bool false]) ?_ 2 _ rfl; (with_reducible repeat (first | refine blk_drewN ?_ _ | refine blk_drew ?_ | refine blk_alloc ?_ _)); refine blk_put (cs := #[.bool true, .bool false, .bool false]) ?_ 1 _ rfl; (with_reducible repeat (first | refine blk_drewN ?_ _ | refine blk_drew ?_ | refine blk_alloc ?_ _)); refine blk_put (cs := #[.bool false, .bool false, .bool false]) ?_ 0 _ rfl; (with_reducible repeat (first | refine blk_drewN ?_ _ | refine blk_drew ?_ | refine blk_alloc ?_ _)); exact BK196.out) Try.underlying39 rfl (by kernel_rfl)) rfl ?_; exact ⟨rr_, bl2_ HB.out GE195.out GE196.out⟩
   ·rw [if_neg c19] at H
    have c19b0 : (a0_0 == 3) = false := beq_eq_false_iff_ne.mpr c19; have c19b1 : (a0_0 != 3) = true := bne_iff_ne.mpr c19; have HC37 := Aside0.mk H; clear H; go_enter Try.func26, Try.ntmps26
    go_upto_if 34 with (first | ((with_reducible refine gate_dst (N := 2) rfl ?_); refine box_event ?hg (N := 2) ?hd (cs := #[.int .i64 a0_0, .int .i64 a0_1, .int .i64 a0_2, .int .i64 a0_3, .int .i64 a0_4, .int .i64 a0_5, .bool a0_6, .int .i64 a0_7, .int .i64 a0_8, .int .i64 a0_9, .int .i64 a0_10, .bool a0_11, .int .i64 a0_12, .slice A0_13 l0_13.length c0_13]) (t := 46) ?hr ?_; (case hd => rfl); (case hg => rfl); (case hr => first | (go_simp; done) | (go_simp; rfl)); intro gb195 hg w38 hbox hb; have BK195 := Aside0.mk (hbox); have GW195 := Aside0.mk ((by rw [hg]; exact (below_size (bl_ HB.out)) : w.heap.size ≤ gb195)); replace HB := bs_ HB hb; have GE195 := GW195; clear hb hbox hg) | ((with_reducible refine gate_dst (N := 4) rfl ?_); refine box_event ?hg (N := 4) ?hd (cs := #[.bool false, .bool false, .bool false]) (t := 39) ?hr ?_; (case hd => rfl); (case hg => rfl); (case hr => first | (go_simp; done) | (go_simp; rfl)); intro gb196 hg w39 hbox hb; have BK196 := Aside0.mk (hbox); have GW196 := Aside0.mk ((by rw [hg]; exact (below_size (bl1_ HB.out GE195.out)) : w.heap.size ≤ gb196)); replace HB := bs1_ HB GE195 hb; have GE196 := GW196; have NB195_196 := Aside0.mk ((by rw [hg]; exact Nat.ne_of_lt (blk_lt (bk_ BK195.out)) : gb195 ≠ gb196)); have NB196_195 := Aside0.mk ((by rw [hg]; exact Nat.ne_of_gt (blk_lt (bk_ BK195.out)) : gb196 ≠ gb195)); replace BK195 := bb_ BK195 hb; clear hb hbox hg; have hnb40 := NB195_196.out; have hnc40 := NB196_195.out; have hcz41 := blk_cell BK195.out; have hfz41 := blk_frozen BK195.out; have hfz41_13 := blk_frozen BK195.out 13))
    (try simp only [Act.put, List.setIfInBounds_toArray, List.set_cons_zero, List.set_cons_succ]); go_cut [34] (fun v34 wc => ∃ (kq : Nat) (x34_36 : Bool), v34 = .bool x34_36 ∧ Aside0 (reject_May.j0 kq a1 a0_0 x34_36 a0_0 a0_1 a0_2 a0_3 a0_4 a0_5 a0_6 a0_7 a0_8 a0_9 a0_10 a0_11 a0_12 l0_13 = some (r1, r2, r3)) ∧ Aside0 (kq ≤ k) ∧ Aside0 (wc.heap[gb195]? = some (.cells #[.int .i64 a0_0, .int .i64 a0_1, .int .i64 a0_2, .int .i64 a0_3, .int .i64 a0_4, .int .i64 a0_5, .bool a0_6, .int .i64 a0_7, .int .i64 a0_8, .int .i64 a0_9, .int .i64 a0_10, .bool a0_11, .int .i64 a0_12, (.slice A0_13 l0_13.length c0_13)] 46 (0, 0))) ∧ Aside0 (wc.heap[gb196]? = some (.cells #[.bool false, .bool false, .bool false] 39 (0, 0))) ∧ Aside0 (Below w.heap.size w wc))
    case first =>
     have H := HC37.out; clear HC37; by_cases c42 : a0_0 = 4
     ·rw [if_pos c42] at H
      have c42b0 : (a0_0 == 4) = true := beq_iff_eq.mpr c42; have c42b1 : (a0_0 != 4) = false := bne_eq_false_iff_eq.mpr c42; clear c42; (first | rw [c42b0] | (simp only [i64_w, i32_w]; rw [c42b0]) | skip); have H' := Aside0.mk H; clear H; go_wp2; go_meet
      case rel => exact ⟨_, ((a0_0 == 4)), (by first | rfl | (simp; done) | (simp [*]; done) | (simp; decide)), H', ⟨by first | omega | exact Nat.le_refl _⟩, ⟨bk_ BK195.out⟩, ⟨bk_ BK196.out⟩, ⟨bl2_ HB.out GE195.out GE196.out⟩⟩
     ·rw [if_neg c42] at H
      have c42b0 : (a0_0 == 4) = false := beq_eq_false_iff_ne.mpr c42; have c42b1 : (a0_0 != 4) = true := bne_iff_ne.mpr c42; (first | rw [c42b0] | (simp only [i64_w, i32_w]; rw [c42b0]) | skip); have H' := Aside0.mk H; clear H; go_wp2; go_meet
      case rel => exact ⟨_, ((a0_0 == 5)), (by first | rfl | (simp; done) | (simp [*]; done) | (simp; decide)), H', ⟨by first | omega | exact Nat.le_refl _⟩, ⟨bk_ BK195.out⟩, ⟨bk_ BK196.out⟩, ⟨bl2_ HB.out GE195.out GE196.out⟩⟩
    case rest =>
     clear HC37; try clear c1
     try clear c2
     try clear p2
     try clear c3
     try clear c3b0
     try clear c3b1
     try clear c4
     try clear c5
     try clear c7
     try clear c11
     try clear c11b0
     try clear c11b1
     try clear c15
     try clear c19
     try clear c19b0
     try clear c19b1
     try clear c21
     try clear c25
     try clear c26
     try clear c32
     try clear c40
     try clear c42
     try clear c42b0
     try clear c42b1
     try clear hcz10
     try clear hcz16
     try clear hcz18
     try clear hcz26
     try clear hcz29
     try clear hcz33
     try clear hcz35
     try clear hcz36
     try clear hcz41
     try clear hcz8
     try clear hfz10_0
     try clear hfz10_1
     try clear hfz10_2
     try clear hfz16
     try clear hfz16_13
     try clear hfz16
     try clear hfz18_0
     try clear hfz18_1
     try clear hfz18_2
     try clear hfz26
     try clear hfz26_13
     try clear hfz26
     try clear hfz29_0
     try clear hfz29_1
     try clear hfz29_2
     try clear hfz33
     try clear hfz33_13
     try clear hfz33
     try clear hfz35
     try clear hfz36_0
     try clear hfz36_1
     try clear hfz36_2
     try clear hfz41
     try clear hfz41_13
     try clear hfz41
     try clear hfz8
     try clear hfz8_13
     try clear hfz8
     obtain ⟨kq, x34_36, rfl, HA, HJ36, BK195, BK196, HB⟩ := hcut; cases kq with
     | zero => exact absurd HA.out (by simp [reject_May.j0])
     | succ kj36 =>
      have H := HA.out; clear HA; simp only [reject_May.j0] at H; by_cases c43 : x34_36 = true
      ·subst c43
       have H1 : ((reject_only.f kj36 2).bind fun bt207 => (if a0_0 = 5 then ((reject_only.f kj36 0).bind fun bt211 => (reject_May.l0 kj36 a1 l0_13 (l0_13.length : Int) 0 bt211.1 bt211.2.1 bt211.2.2)) else (reject_May.l101 kj36 a1 l0_13 (l0_13.length : Int) 0 bt207.1 bt207.2.1 bt207.2.2))) = some (r1, r2, r3) := by rw [if_pos rfl] at H; exact H
       clear H; have H := H1; clear H1; replace H := Option.bind_eq_some_iff.mp H; obtain ⟨⟨t207, t208, t209⟩, A440, H⟩ := H; replace H : (if a0_0 = 5 then ((reject_only.f kj36 0).bind fun bt211 => (reject_May.l0 kj36 a1 l0_13 (l0_13.length : Int) 0 bt211.1 bt211.2.1 bt211.2.2)) else (reject_May.l101 kj36 a1 l0_13 (l0_13.length : Int) 0 t207 t208 t209)) = some (r1, r2, r3) := H; have A44 := Aside0.mk A440; clear A440; by_cases c45 : a0_0 = 5
       ·rw [if_pos c45] at H
        have c45b0 : (a0_0 == 5) = true := beq_iff_eq.mpr c45; have c45b1 : (a0_0 != 5) = false := bne_eq_false_iff_eq.mpr c45; clear c45; replace H := Option.bind_eq_some_iff.mp H; obtain ⟨⟨t211, t212, t213⟩, A460, H⟩ := H; replace H : (reject_May.l0 kj36 a1 l0_13 (l0_13.length : Int) 0 t211 t212 t213) = some (r1, r2, r3) := H; have A46 := Aside0.mk A460; clear A460; have H' := Aside0.mk H; clear H; go_wp2_with (first | ((with_reducible refine gate_callee (f := 57) rfl ?_); refine goesL_ (some 37) rfl rfl Try.func57 (by kernel_rfl) rfl #[.int .i64 2] rfl (by (try simp only [List.map_toArray, List.map_cons, List.map_nil]); first | done | rfl | (simp only [List.length_drop, List.length_take]; rfl)) ?_; (with_reducible refine (reject_only.calls kj36 2 t207 t208 t209 _ A44.out).mono ?_); rintro e w47 ⟨rfl, hb⟩; refine ⟨_, rfl, ?_⟩; replace BK195 := bb_ BK195 hb; replace BK196 := bb_ BK196 hb; replace HB := bs2_ HB GE195 GE196 hb; (try clear hb)) | ((with_reducible refine gate_dst (N := 5) rfl ?_); refine box_event ?hg (N := 5) ?hd (cs := #[.bool false, .bool false, .bool false]) (t := 39) ?hr ?_; (case hd => rfl); (case hg => rfl); (case hr => first | (go_simp; done) | (go_simp; rfl)); intro gb210 hg w48 hbox hb; have BK210 := Aside0.mk (hbox); have GW210 := Aside0.mk ((by rw [hg]; exact (below_size (bl2_ HB.out GE195.out GE196.out)) : w.heap.size ≤ gb210)); replace HB := bs2_ HB GE195 GE196 hb; have GE210 := GW210; have NB195_210 := Aside0.mk ((by rw [hg]; exact Nat.ne_of_lt (blk_lt (bk_ BK195.out)) : gb195 ≠ gb210)); have NB210_195 := Aside0.mk ((by rw [hg]; exact Nat.ne_of_gt (blk_lt (bk_ BK195.out)) : gb210 ≠ gb195)); replace BK195 := bb_ BK195 hb; have NB196_210 := Aside0.mk ((by rw [hg]; exact Nat.ne_of_lt (blk_lt (bk_ BK196.out)) : gb196 ≠ gb210)); have NB210_196 := Aside0.mk ((by rw [hg]; exact Nat.ne_of_gt (blk_lt (bk_ BK196.out)) : gb210 ≠ gb196)); replace BK196 := bb_ BK196 hb; clear hb hbox hg; have hnb49 := NB210_195.out; have hnc49 := NB195_210.out; have hnb50 := NB210_196.out; have hnc50 := NB196_210.out; have hcz51 := blk_cell BK210.out; have hfz51 := blk_frozen BK210.out; have hnb52 := NB195_196.out; have hnc52 := NB196_195.out; have hcz53 := blk_cell BK195.out; have hfz53 := blk_frozen BK195.out; have hfz53_13 := blk_frozen BK195.out 13) | ((with_reducible refine gate_callee (f := 57) rfl ?_); refine goesL_ (some 41) rfl rfl Try.func57 (by kernel_rfl) rfl #[.int .i64 0] rfl (by (try simp only [List.map_toArray, List.map_cons, List.map_nil]); first | done | rfl | (simp only [List.length_drop, List.length_take]; rfl)) ?_; (with_reducible refine (reject_only.calls kj36 0 t211 t212 t213 _ A46.out).mono ?_); rintro e w54 ⟨rfl, hb⟩; refine ⟨_, rfl, ?_⟩; replace BK195 := Aside0.mk (blk_below (g := gb195) (o := .cells #[.int .i64 a0_0, .int .i64 a0_1, .int .i64 a0_2, .int .i64 a0_3, .int .i64 a0_4, .int .i64 a0_5, .bool a0_6, .int .i64 a0_7, .int .i64 a0_8, .int .i64 a0_9, .int .i64 a0_10, .bool a0_11, .int .i64 a0_12, .slice A0_13 l0_13.length c0_13] 46 (0, 0)) (bf1_ BK195.out NB195_210.out) hb); replace BK196 := Aside0.mk (blk_below (g := gb196) (o := .cells #[.bool false, .bool false, .bool false] 39 (0, 0)) (bf1_ BK196.out NB196_210.out) hb); replace BK210 := Aside0.mk (blk_below (g := gb210) (o := .cells #[.bool t207, .bool t208, .bool t209] 39 (0, 0)) (by (with_reducible repeat (first | refine blk_drewN ?_ _ | refine blk_drew ?_ | refine blk_alloc ?_ _)); refine blk_put (cs := #[.bool t207, .bool t208, .bool false]) ?_ 2 _ rfl; (with_reducible repeat (first | refine blk_drewN ?_ _ | refine blk_drew ?_ | refine blk_alloc ?_ _)); refine blk_put (cs := #[.bool t207, .bool false, .bool false]) ?_ 1 _ rfl; (with_reducible repeat (first | refine blk_drewN ?_ _ | refine blk_drew ?_ | refine blk_alloc ?_ _)); refine blk_put (cs := #[.bool false, .bool false, .bool false]) ?_ 0 _ rfl; (with_reducible repeat (first | refine blk_drewN ?_ _ | refine blk_drew ?_ | refine blk_alloc ?_ _)); exact BK210.out) hb); replace HB := bs3_ HB GE195 GE196 GE210 hb; (try clear hb); have hcz55 := blk_cell BK210.out; have hfz55 := blk_frozen BK210.out; have hcz56 := blk_cell BK195.out; have hfz56 := blk_frozen BK195.out; have hfz56_13 := blk_frozen BK195.out 13))
        go_loopg [45] kj36 (fun kq v45 w' => ∃ (x45_2 : Int) (x211000_2 : Bool) (x211001_2 : Bool) (x211002_2 : Bool), v45 = .int .i64 x45_2 ∧ Aside0 (reject_May.l0 kq a1 l0_13 (l0_13.length : Int) x45_2 x211000_2 x211001_2 x211002_2 = some (r1, r2, r3)) ∧ Aside0 (kq ≤ kj36) ∧ Aside0 (w'.heap[gb195]? = some (.cells #[.int .i64 a0_0, .int .i64 a0_1, .int .i64 a0_2, .int .i64 a0_3, .int .i64 a0_4, .int .i64 a0_5, .bool a0_6, .int .i64 a0_7, .int .i64 a0_8, .int .i64 a0_9, .int .i64 a0_10, .bool a0_11, .int .i64 a0_12, (.slice A0_13 l0_13.length c0_13)] 46 (0, 0))) ∧ Aside0 (w'.heap[gb196]? = some (.cells #[.bool false, .bool false, .bool false] 39 (0, 0))) ∧ Aside0 (w'.heap[gb210]? = some (.cells #[.bool x211000_2, .bool x211001_2, .bool x211002_2] 39 (0, 0))) ∧ Aside0 (Below w.heap.size w w'))
        case atStart => exact ⟨(0), (t211), (t212), (t213), (by first | rfl | (simp; done) | (simp [*]; done) | (simp; decide)), H', ⟨Nat.le_refl _⟩, ⟨bf1_ BK195.out NB195_210.out⟩, ⟨bf1_ BK196.out NB196_210.out⟩, ⟨by (with_reducible repeat (first | refine blk_drewN ?_ _ | refine blk_drew ?_ | refine blk_alloc ?_ _)); refine blk_put (cs := #[.bool t211, .bool t212, .bool t209]) ?_ 2 _ rfl; (with_reducible repeat (first | refine blk_drewN ?_ _ | refine blk_drew ?_ | refine blk_alloc ?_ _)); refine blk_put (cs := #[.bool t211, .bool t208, .bool t209]) ?_ 1 _ rfl; (with_reducible repeat (first | refine blk_drewN ?_ _ | refine blk_drew ?_ | refine blk_alloc ?_ _)); refine blk_put (cs := #[.bool t207, .bool t208, .bool t209]) ?_ 0 _ rfl; (with_reducible repeat (first | refine blk_drewN ?_ _ | refine blk_drew ?_ | refine blk_alloc ?_ _)); exact BK210.out⟩, ⟨bl3_ HB.out GE195.out GE196.out GE210.out⟩⟩
        case round =>
         clear H'; try clear c1
         try clear c2
         try clear p2
         try clear c3
         try clear c3b0
         try clear c3b1
         try clear c4
         try clear c5
         try clear c7
         try clear c11
         try clear c11b0
         try clear c11b1
         try clear c15
         try clear c19
         try clear c19b0
         try clear c19b1
         try clear c21
         try clear c25
         try clear c26
         try clear c32
         try clear c40
         try clear c42
         try clear c42b0
         try clear c42b1
         try clear c43
         try clear c45
         try clear c45b0
         try clear c45b1
         try clear c49
         try clear c50
         try clear c52
         try clear hcz10
         try clear hcz16
         try clear hcz18
         try clear hcz26
         try clear hcz29
         try clear hcz33
         try clear hcz35
         try clear hcz36
         try clear hcz41
         try clear hcz51
         try clear hcz53
         try clear hcz55
         try clear hcz56
         try clear hcz8
         try clear hfz10_0
         try clear hfz10_1
         try clear hfz10_2
         try clear hfz16
         try clear hfz16_13
         try clear hfz16
         try clear hfz18_0
         try clear hfz18_1
         try clear hfz18_2
         try clear hfz26
         try clear hfz26_13
         try clear hfz26
         try clear hfz29_0
         try clear hfz29_1
         try clear hfz29_2
         try clear hfz33
         try clear hfz33_13
         try clear hfz33
         try clear hfz35
         try clear hfz36_0
         try clear hfz36_1
         try clear hfz36_2
         try clear hfz41
         try clear hfz41_13
         try clear hfz41
         try clear hfz51
         try clear hfz53
         try clear hfz53_13
         try clear hfz53
         try clear hfz55
         try clear hfz56
         try clear hfz56_13
         try clear hfz56
         try clear hfz8
         try clear hfz8_13
         try clear hfz8
         try clear p2
         obtain ⟨x45_2, x211000_2, x211001_2, x211002_2, rfl, HA, HK2, BK195, BK196, BK210, HB⟩ := hrel; cases gk with
         | zero => exact absurd HA.out (by simp [reject_May.l0])
         | succ k2 =>
          have H := HA.out; clear HA; simp only [reject_May.l0] at H; by_cases c57 : x45_2 < (l0_13.length : Int)
          ·rw [if_pos c57] at H
           have c57b0 : decide (x45_2 < (l0_13.length : Int)) = true := decide_eq_true c57; clear c57; by_cases c58 : 0 ≤ x45_2
           ·rw [if_pos c58] at H
            have c58b0 : decide (0 ≤ x45_2) = true := decide_eq_true c58; clear c58; by_cases c59 : x45_2 < (l0_13.length : Int)
            ·rw [if_pos c59] at H
             have c59b0 : decide (x45_2 < (l0_13.length : Int)) = true := decide_eq_true c59; clear c59; replace H := Option.bind_eq_some_iff.mp H; obtain ⟨⟨t216, t217, t218⟩, A600, H⟩ := H; replace H : ((reject_both_at_logic_Or.f k2 x211000_2 x211001_2 x211002_2 t216 t217 t218).bind fun bt219 => (reject_May.l0 k2 a1 l0_13 (l0_13.length : Int) (wrap64 (x45_2 + 1)) bt219.1 bt219.2.1 bt219.2.2)) = some (r1, r2, r3) := H; have A60 := Aside0.mk A600; clear A600; replace H := Option.bind_eq_some_iff.mp H; obtain ⟨⟨t219, t220, t221⟩, A610, H⟩ := H; replace H : (reject_May.l0 k2 a1 l0_13 (l0_13.length : Int) (wrap64 (x45_2 + 1)) t219 t220 t221) = some (r1, r2, r3) := H; have A61 := Aside0.mk A610; clear A610; have H' := Aside0.mk H; clear H; have p214 : 0 ≤ (x45_2 : Int) := of_decide_eq_true (by first | (with_reducible assumption) | assumption); have q214 : x45_2 < (l0_13.length : Int) := of_decide_eq_true (by first | (with_reducible assumption) | assumption); obtain ⟨ad214, A214_13, c214_13, e214, hx214_0, hx214_1, hx214_2, hx214_3, hx214_4, hx214_5, hx214_6, hx214_7, hx214_8, hx214_9, hx214_10, hx214_11, hx214_12, hx214_13, hl214_13, hi214_13⟩ := at_T46 HR0_13.out x45_2 p214 q214; cases e214; replace hx214_0 := hc_ HB.out hx214_0; replace hx214_1 := hc_ HB.out hx214_1; replace hx214_2 := hc_ HB.out hx214_2; replace hx214_3 := hc_ HB.out hx214_3; replace hx214_4 := hc_ HB.out hx214_4; replace hx214_5 := hc_ HB.out hx214_5; replace hx214_6 := hc_ HB.out hx214_6; replace hx214_7 := hc_ HB.out hx214_7; replace hx214_8 := hc_ HB.out hx214_8; replace hx214_9 := hc_ HB.out hx214_9; replace hx214_10 := hc_ HB.out hx214_10; replace hx214_11 := hc_ HB.out hx214_11; replace hx214_12 := hc_ HB.out hx214_12; replace hx214_13 := hc_ HB.out hx214_13; have HR214_13 := Aside0.mk hi214_13; have HC214_13 := Aside0.mk hl214_13; clear hi214_13 hl214_13; replace p214 := eq_true p214; replace q214 := eq_true q214; try go_wp2_with (first | ((with_reducible refine gate_dst (N := 8) rfl ?_); refine box_event ?hg (N := 8) ?hd (cs := #[.int .i64 0, .int .i64 0, .int .i64 0, .int .i64 0, .int .i64 0, .int .i64 0, .bool false, .int .i64 0, .int .i64 0, .int .i64 0, .int .i64 0, .bool false, .int .i64 0, .slice none 0 0]) (t := 46) ?hr ?_; (case hd => rfl); (case hg => rfl); (case hr => first | (go_simp; done) | (go_simp; rfl)); intro gb215 hg w62 hbox hb; have BK215 := Aside0.mk (hbox); have GW215 := Aside0.mk ((by rw [hg]; exact (below_size (bl3_ HB.out GE195.out GE196.out GE210.out)) : w.heap.size ≤ gb215)); replace HB := bs3_ HB GE195 GE196 GE210 hb; have GE215 := GW215; have NB195_215 := Aside0.mk ((by rw [hg]; exact Nat.ne_of_lt (blk_lt (bk_ BK195.out)) : gb195 ≠ gb215)); have NB215_195 := Aside0.mk ((by rw [hg]; exact Nat.ne_of_gt (blk_lt (bk_ BK195.out)) : gb215 ≠ gb195)); replace BK195 := bb_ BK195 hb; have NB196_215 := Aside0.mk ((by rw [hg]; exact Nat.ne_of_lt (blk_lt (bk_ BK196.out)) : gb196 ≠ gb215)); have NB215_196 := Aside0.mk ((by rw [hg]; exact Nat.ne_of_gt (blk_lt (bk_ BK196.out)) : gb215 ≠ gb196)); replace BK196 := bb_ BK196 hb; have NB210_215 := Aside0.mk ((by rw [hg]; exact Nat.ne_of_lt (blk_lt (bk_ BK210.out)) : gb210 ≠ gb215)); have NB215_210 := Aside0.mk ((by rw [hg]; exact Nat.ne_of_gt (blk_lt (bk_ BK210.out)) : gb215 ≠ gb210)); replace BK210 := bb_ BK210 hb; clear hb hbox hg; have hnb63 := NB215_195.out; have hnc63 := NB195_215.out; have hnb64 := NB215_196.out; have hnc64 := NB196_215.out; have hnb65 := NB215_210.out; have hnc65 := NB210_215.out; have hcz66 := blk_cell BK215.out; have hfz66 := blk_frozen BK215.out; have hfz66_13 := blk_frozen BK215.out 13))
             have n0_ : Aside0 (((((((((((((((w62.setCell ⟨gb215, 0, none⟩ (.int .i64 ((rd_T46 l0_13 x45_2).f0))).setCell ⟨gb215, 1, none⟩ (.int .i64 ((rd_T46 l0_13 x45_2).f1))).setCell ⟨gb215, 2, none⟩ (.int .i64 ((rd_T46 l0_13 x45_2).f2))).setCell ⟨gb215, 3, none⟩ (.int .i64 ((rd_T46 l0_13 x45_2).f3.f0))).setCell ⟨gb215, 4, none⟩ (.int .i64 ((rd_T46 l0_13 x45_2).f3.f1))).setCell ⟨gb215, 5, none⟩ (.int .i64 ((rd_T46 l0_13 x45_2).f3.f2))).setCell ⟨gb215, 6, none⟩ (.bool ((rd_T46 l0_13 x45_2).f3.f3.f0))).setCell ⟨gb215, 7, none⟩ (.int .i64 ((rd_T46 l0_13 x45_2).f3.f3.f1))).setCell ⟨gb215, 8, none⟩ (.int .i64 ((rd_T46 l0_13 x45_2).f4.f0))).setCell ⟨gb215, 9, none⟩ (.int .i64 ((rd_T46 l0_13 x45_2).f4.f1))).setCell ⟨gb215, 10, none⟩ (.int .i64 ((rd_T46 l0_13 x45_2).f4.f2))).setCell ⟨gb215, 11, none⟩ (.bool ((rd_T46 l0_13 x45_2).f4.f3.f0))).setCell ⟨gb215, 12, none⟩ (.int .i64 ((rd_T46 l0_13 x45_2).f4.f3.f1))).setCell ⟨gb215, 13, none⟩ (.slice A214_13 ((rd_T46 l0_13 x45_2).f5).length c214_13)).heap[gb195]? = some (.cells #[.int .i64 a0_0, .int .i64 a0_1, .int .i64 a0_2, .int .i64 a0_3, .int .i64 a0_4, .int .i64 a0_5, .bool a0_6, .int .i64 a0_7, .int .i64 a0_8, .int .i64 a0_9, .int .i64 a0_10, .bool a0_11, .int .i64 a0_12, .slice (some ad214) l0_13.length c0_13] 46 (0, 0))) := ⟨bf1_ BK195.out NB195_215.out⟩; have n1_ : Aside0 (((((((((((((((w62.setCell ⟨gb215, 0, none⟩ (.int .i64 ((rd_T46 l0_13 x45_2).f0))).setCell ⟨gb215, 1, none⟩ (.int .i64 ((rd_T46 l0_13 x45_2).f1))).setCell ⟨gb215, 2, none⟩ (.int .i64 ((rd_T46 l0_13 x45_2).f2))).setCell ⟨gb215, 3, none⟩ (.int .i64 ((rd_T46 l0_13 x45_2).f3.f0))).setCell ⟨gb215, 4, none⟩ (.int .i64 ((rd_T46 l0_13 x45_2).f3.f1))).setCell ⟨gb215, 5, none⟩ (.int .i64 ((rd_T46 l0_13 x45_2).f3.f2))).setCell ⟨gb215, 6, none⟩ (.bool ((rd_T46 l0_13 x45_2).f3.f3.f0))).setCell ⟨gb215, 7, none⟩ (.int .i64 ((rd_T46 l0_13 x45_2).f3.f3.f1))).setCell ⟨gb215, 8, none⟩ (.int .i64 ((rd_T46 l0_13 x45_2).f4.f0))).setCell ⟨gb215, 9, none⟩ (.int .i64 ((rd_T46 l0_13 x45_2).f4.f1))).setCell ⟨gb215, 10, none⟩ (.int .i64 ((rd_T46 l0_13 x45_2).f4.f2))).setCell ⟨gb215, 11, none⟩ (.bool ((rd_T46 l0_13 x45_2).f4.f3.f0))).setCell ⟨gb215, 12, none⟩ (.int .i64 ((rd_T46 l0_13 x45_2).f4.f3.f1))).setCell ⟨gb215, 13, none⟩ (.slice A214_13 ((rd_T46 l0_13 x45_2).f5).length c214_13)).heap[gb196]? = some (.cells #[.bool false, .bool false, .bool false] 39 (0, 0))) := ⟨bf1_ BK196.out NB196_215.out⟩
             have n2_ : Aside0 (((((((((((((((w62.setCell ⟨gb215, 0, none⟩ (.int .i64 ((rd_T46 l0_13 x45_2).f0))).setCell ⟨gb215, 1, none⟩ (.int .i64 ((rd_T46 l0_13 x45_2).f1))).setCell ⟨gb215, 2, none⟩ (.int .i64 ((rd_T46 l0_13 x45_2).f2))).setCell ⟨gb215, 3, none⟩ (.int .i64 ((rd_T46 l0_13 x45_2).f3.f0))).setCell ⟨gb215, 4, none⟩ (.int .i64 ((rd_T46 l0_13 x45_2).f3.f1))).setCell ⟨gb215, 5, none⟩ (.int .i64 ((rd_T46 l0_13 x45_2).f3.f2))).setCell ⟨gb215, 6, none⟩ (.bool ((rd_T46 l0_13 x45_2).f3.f3.f0))).setCell ⟨gb215, 7, none⟩ (.int .i64 ((rd_T46 l0_13 x45_2).f3.f3.f1))).setCell ⟨gb215, 8, none⟩ (.int .i64 ((rd_T46 l0_13 x45_2).f4.f0))).setCell ⟨gb215, 9, none⟩ (.int .i64 ((rd_T46 l0_13 x45_2).f4.f1))).setCell ⟨gb215, 10, none⟩ (.int .i64 ((rd_T46 l0_13 x45_2).f4.f2))).setCell ⟨gb215, 11, none⟩ (.bool ((rd_T46 l0_13 x45_2).f4.f3.f0))).setCell ⟨gb215, 12, none⟩ (.int .i64 ((rd_T46 l0_13 x45_2).f4.f3.f1))).setCell ⟨gb215, 13, none⟩ (.slice A214_13 ((rd_T46 l0_13 x45_2).f5).length c214_13)).heap[gb210]? = some (.cells #[.bool x211000_2, .bool x211001_2, .bool x211002_2] 39 (0, 0))) := ⟨bf1_ BK210.out NB210_215.out⟩; have n3_ : Aside0 (((((((((((((((w62.setCell ⟨gb215, 0, none⟩ (.int .i64 ((rd_T46 l0_13 x45_2).f0))).setCell ⟨gb215, 1, none⟩ (.int .i64 ((rd_T46 l0_13 x45_2).f1))).setCell ⟨gb215, 2, none⟩ (.int .i64 ((rd_T46 l0_13 x45_2).f2))).setCell ⟨gb215, 3, none⟩ (.int .i64 ((rd_T46 l0_13 x45_2).f3.f0))).setCell ⟨gb215, 4, none⟩ (.int .i64 ((rd_T46 l0_13 x45_2).f3.f1))).setCell ⟨gb215, 5, none⟩ (.int .i64 ((rd_T46 l0_13 x45_2).f3.f2))).setCell ⟨gb215, 6, none⟩ (.bool ((rd_T46 l0_13 x45_2).f3.f3.f0))).setCell ⟨gb215, 7, none⟩ (.int .i64 ((rd_T46 l0_13 x45_2).f3.f3.f1))).setCell ⟨gb215, 8, none⟩ (.int .i64 ((rd_T46 l0_13 x45_2).f4.f0))).setCell ⟨gb215, 9, none⟩ (.int .i64 ((rd_T46 l0_13 x45_2).f4.f1))).setCell ⟨gb215, 10, none⟩ (.int .i64 ((rd_T46 l0_13 x45_2).f4.f2))).setCell ⟨gb215, 11, none⟩ (.bool ((rd_T46 l0_13 x45_2).f4.f3.f0))).setCell ⟨gb215, 12, none⟩ (.int .i64 ((rd_T46 l0_13 x45_2).f4.f3.f1))).setCell ⟨gb215, 13, none⟩ (.slice A214_13 ((rd_T46 l0_13 x45_2).f5).length c214_13)).heap[gb215]? = some (.cells #[.int .i64 ((rd_T46 l0_13 x45_2).f0), .int .i64 ((rd_T46 l0_13 x45_2).f1), .int .i64 ((rd_T46 l0_13 x45_2).f2), .int .i64 ((rd_T46 l0_13 x45_2).f3.f0), .int .i64 ((rd_T46 l0_13 x45_2).f3.f1), .int .i64 ((rd_T46 l0_13 x45_2).f3.f2), .bool ((rd_T46 l0_13 x45_2).f3.f3.f0), .int .i64 ((rd_T46 l0_13 x45_2).f3.f3.f1), .int .i64 ((rd_T46 l0_13 x45_2).f4.f0), .int .i64 ((rd_T46 l0_13 x45_2).f4.f1), .int .i64 ((rd_T46 l0_13 x45_2).f4.f2), .bool ((rd_T46 l0_13 x45_2).f4.f3.f0), .int .i64 ((rd_T46 l0_13 x45_2).f4.f3.f1), .slice A214_13 ((rd_T46 l0_13 x45_2).f5).length c214_13] 46 (0, 0))) := ⟨by (with_reducible repeat (first | refine blk_drewN ?_ _ | refine blk_drew ?_ | refine blk_alloc ?_ _)); refine blk_put (cs := #[.int .i64 ((rd_T46 l0_13 x45_2).f0), .int .i64 ((rd_T46 l0_13 x45_2).f1), .int .i64 ((rd_T46 l0_13 x45_2).f2), .int .i64 ((rd_T46 l0_13 x45_2).f3.f0), .int .i64 ((rd_T46 l0_13 x45_2).f3.f1), .int .i64 ((rd_T46 l0_13 x45_2).f3.f2), .bool ((rd_T46 l0_13 x45_2).f3.f3.f0), .int .i64 ((rd_T46 l0_13 x45_2).f3.f3.f1), .int .i64 ((rd_T46 l0_13 x45_2).f4.f0), .int .i64 ((rd_T46 l0_13 x45_2).f4.f1), .int .i64 ((rd_T46 l0_13 x45_2).f4.f2), .bool ((rd_T46 l0_13 x45_2).f4.f3.f0), .int .i64 ((rd_T46 l0_13 x45_2).f4.f3.f1), .slice none 0 0]) ?_ 13 _ rfl; (with_reducible repeat (first | refine blk_drewN ?_ _ | refine blk_drew ?_ | refine blk_alloc ?_ _)); refine blk_put (cs := #[.int .i64 ((rd_T46 l0_13 x45_2).f0), .int .i64 ((rd_T46 l0_13 x45_2).f1), .int .i64 ((rd_T46 l0_13 x45_2).f2), .int .i64 ((rd_T46 l0_13 x45_2).f3.f0), .int .i64 ((rd_T46 l0_13 x45_2).f3.f1), .int .i64 ((rd_T46 l0_13 x45_2).f3.f2), .bool ((rd_T46 l0_13 x45_2).f3.f3.f0), .int .i64 ((rd_T46 l0_13 x45_2).f3.f3.f1), .int .i64 ((rd_T46 l0_13 x45_2).f4.f0), .int .i64 ((rd_T46 l0_13 x45_2).f4.f1), .int .i64 ((rd_T46 l0_13 x45_2).f4.f2), .bool ((rd_T46 l0_13 x45_2).f4.f3.f0), .int .i64 0, .slice none 0 0]) ?_ 12 _ rfl; (with_reducible repeat (first | refine blk_drewN ?_ _ | refine blk_drew ?_ | refine blk_alloc ?_ _)); refine blk_put (cs := #[.int .i64 ((rd_T46 l0_13 x45_2).f0), .int .i64 ((rd_T46 l0_13 x45_2).f1), .int .i64 ((rd_T46 l0_13 x45_2).f2), .int .i64 ((rd_T46 l0_13 x45_2).f3.f0), .int .i64 ((rd_T46 l0_13 x45_2).f3.f1), .int .i64 ((rd_T46 l0_13 x45_2).f3.f2), .bool ((rd_T46 l0_13 x45_2).f3.f3.f0), .int .i64 ((rd_T46 l0_13 x45_2).f3.f3.f1), .int .i64 ((rd_T46 l0_13 x45_2).f4.f0), .int .i64 ((rd_T46 l0_13 x45_2).f4.f1), .int .i64 ((rd_T46 l0_13 x45_2).f4.f2), .bool false, .int .i64 0, .slice none 0 0]) ?_ 11 _ rfl; (with_reducible repeat (first | refine blk_drewN ?_ _ | refine blk_drew ?_ | refine blk_alloc ?_ _)); refine blk_put (cs := #[.int .i64 ((rd_T46 l0_13 x45_2).f0), .int .i64 ((rd_T46 l0_13 x45_2).f1), .int .i64 ((rd_T46 l0_13 x45_2).f2), .int .i64 ((rd_T46 l0_13 x45_2).f3.f0), .int .i64 ((rd_T46 l0_13 x45_2).f3.f1), .int .i64 ((rd_T46 l0_13 x45_2).f3.f2), .bool ((rd_T46 l0_13 x45_2).f3.f3.f0), .int .i64 ((rd_T46 l0_13 x45_2).f3.f3.f1), .int .i64 ((rd_T46 l0_13 x45_2).f4.f0), .int .i64 ((rd_T46 l0_13 x45_2).f4.f1), .int .i64 0, .bool false, .int .i64 0, .slice none 0 0]) ?_ 10 _ rfl; (with_reducible repeat (first | refine blk_drewN ?_ _ | refine blk_drew ?_ | refine blk_alloc ?_ _)); refine blk_put (cs := #[.int .i64 ((rd_T46 l0_13 x45_2).f0), .int .i64 ((rd_T46 l0_13 x45_2).f1), .int .i64 ((rd_T46 l0_13 x45_2).f2), .int .i64 ((rd_T46 l0_13 x45_2).f3.f0), .int .i64 ((rd_T46 l0_13 x45_2).f3.f1), .int .i64 ((rd_T46 l0_13 x45_2).f3.f2), .bool ((rd_T46 l0_13 x45_2).f3.f3.f0), .int .i64 ((rd_T46 l0_13 x45_2).f3.f3.f1), .int .i64 ((rd_T46 l0_13 x45_2).f4.f0), .int .i64 0, .int .i64 0, .bool false, .int .i64 0, .slice none 0 0]) ?_ 9 _ rfl; (with_reducible repeat (first | refine blk_drewN ?_ _ | refine blk_drew ?_ | refine blk_alloc ?_ _)); refine blk_put (cs := #[.int .i64 ((rd_T46 l0_13 x45_2).f0), .int .i64 ((rd_T46 l0_13 x45_2).f1), .int .i64 ((rd_T46 l0_13 x45_2).f2), .int .i64 ((rd_T46 l0_13 x45_2).f3.f0), .int .i64 ((rd_T46 l0_13 x45_2).f3.f1), .int .i64 ((rd_T46 l0_13 x45_2).f3.f2), .bool ((rd_T46 l0_13 x45_2).f3.f3.f0), .int .i64 ((rd_T46 l0_13 x45_2).f3.f3.f1), .int .i64 0, .int .i64 0, .int .i64 0, .bool false, .int .i64 0, .slice none 0 0]) ?_ 8 _ rfl; (with_reducible repeat (first | refine blk_drewN ?_ _ | refine blk_drew ?_ | refine blk_alloc ?_ _)); refine blk_put (cs := #[.int .i64 ((rd_T46 l0_13 x45_2).f0), .int .i64 ((rd_T46 l0_13 x45_2).f1), .int .i64 ((rd_T46 l0_13 x45_2).f2), .int .i64 ((rd_T46 l0_13 x45_2).f3.f0), .int .i64 ((rd_T46 l0_13 x45_2).f3.f1), .int .i64 ((rd_T46 l0_13 x45_2).f3.f2), .bool ((rd_T46 l0_13 x45_2).f3.f3.f0), .int .i64 0, .int .i64 0, .int .i64 0, .int .i64 0, .bool false, .int .i64 0, .slice none 0 0]) ?_ 7 _ rfl; (with_reducible repeat (first | refine blk_drewN ?_ _ | refine blk_drew ?_ | refine blk_alloc ?_ _)); refine blk_put (cs := #[.int .i64 ((rd_T46 l0_13 x45_2).f0), .int .i64 ((rd_T46 l0_13 x45_2).f1), .int .i64 ((rd_T46 l0_13 x45_2).f2), .int .i64 ((rd_T46 l0_13 x45_2).f3.f0), .int .i64 ((rd_T46 l0_13 x45_2).f3.f1), .int .i64 ((rd_T46 l0_13 x45_2).f3.f2), .bool false, .int .i64 0, .int .i64 0, .int .i64 0, .int .i64 0, .bool false, .int .i64 0, .slice none 0 0]) ?_ 6 _ rfl; (with_reducible repeat (first | refine blk_drewN ?_ _ | refine blk_drew ?_ | refine blk_alloc ?_ _)); refine blk_put (cs := #[.int .i64 ((rd_T46 l0_13 x45_2).f0), .int .i64 ((rd_T46 l0_13 x45_2).f1), .int .i64 ((rd_T46 l0_13 x45_2).f2), .int .i64 ((rd_T46 l0_13 x45_2).f3.f0), .int .i64 ((rd_T46 l0_13 x45_2).f3.f1), .int .i64 0, .bool false, .int .i64 0, .int .i64 0, .int .i64 0, .int .i64 0, .bool false, .int .i64 0, .slice none 0 0]) ?_ 5 _ rfl; (with_reducible repeat (first | refine blk_drewN ?_ _ | refine blk_drew ?_ | refine blk_alloc ?_ _)); refine blk_put (cs := #[.int .i64 ((rd_T46 l0_13 x45_2).f0), .int .i64 ((rd_T46 l0_13 x45_2).f1), .int .i64 ((rd_T46 l0_13 x45_2).f2), .int .i64 ((rd_T46 l0_13 x45_2).f3.f0), .int .i64 0, .int .i64 0, .bool false, .int .i64 0, .int .i64 0, .int .i64 0, .int .i64 0, .bool false, .int .i64 0, .slice none 0 0]) ?_ 4 _ rfl; (with_reducible repeat (first | refine blk_drewN ?_ _ | refine blk_drew ?_ | refine blk_alloc ?_ _)); refine blk_put (cs := #[.int .i64 ((rd_T46 l0_13 x45_2).f0), .int .i64 ((rd_T46 l0_13 x45_2).f1), .int .i64 ((rd_T46 l0_13 x45_2).f2), .int .i64 0, .int .i64 0, .int .i64 0, .bool false, .int .i64 0, .int .i64 0, .int .i64 0, .int .i64 0, .bool false, .int .i64 0, .slice none 0 0]) ?_ 3 _ rfl; (with_reducible repeat (first | refine blk_drewN ?_ _ | refine blk_drew ?_ | refine blk_alloc ?_ _)); refine blk_put (cs := #[.int .i64 ((rd_T46 l0_13 x45_2).f0), .int .i64 ((rd_T46 l0_13 x45_2).f1), .int .i64 0, .int .i64 0, .int .i64 0, .int .i64 0, .bool false, .int .i64 0, .int .i64 0, .int .i64 0, .int .i64 0, .bool false, .int .i64 0, .slice none 0 0]) ?_ 2 _ rfl; (with_reducible repeat (first | refine blk_drewN ?_ _ | refine blk_drew ?_ | refine blk_alloc ?_ _)); refine blk_put (cs := #[.int .i64 ((rd_T46 l0_13 x45_2).f0), .int .i64 0, .int .i64 0, .int .i64 0, .int .i64 0, .int .i64 0, .bool false, .int .i64 0, .int .i64 0, .int .i64 0, .int .i64 0, .bool false, .int .i64 0, .slice none 0 0]) ?_ 1 _ rfl; (with_reducible repeat (first | refine blk_drewN ?_ _ | refine blk_drew ?_ | refine blk_alloc ?_ _)); refine blk_put (cs := #[.int .i64 0, .int .i64 0, .int .i64 0, .int .i64 0, .int .i64 0, .int .i64 0, .bool false, .int .i64 0, .int .i64 0, .int .i64 0, .int .i64 0, .bool false, .int .i64 0, .slice none 0 0]) ?_ 0 _ rfl; (with_reducible repeat (first | refine blk_drewN ?_ _ | refine blk_drew ?_ | refine blk_alloc ?_ _)); exact BK215.out⟩
             have n4_ : Aside0 (Below w.heap.size w ((((((((((((((w62.setCell ⟨gb215, 0, none⟩ (.int .i64 ((rd_T46 l0_13 x45_2).f0))).setCell ⟨gb215, 1, none⟩ (.int .i64 ((rd_T46 l0_13 x45_2).f1))).setCell ⟨gb215, 2, none⟩ (.int .i64 ((rd_T46 l0_13 x45_2).f2))).setCell ⟨gb215, 3, none⟩ (.int .i64 ((rd_T46 l0_13 x45_2).f3.f0))).setCell ⟨gb215, 4, none⟩ (.int .i64 ((rd_T46 l0_13 x45_2).f3.f1))).setCell ⟨gb215, 5, none⟩ (.int .i64 ((rd_T46 l0_13 x45_2).f3.f2))).setCell ⟨gb215, 6, none⟩ (.bool ((rd_T46 l0_13 x45_2).f3.f3.f0))).setCell ⟨gb215, 7, none⟩ (.int .i64 ((rd_T46 l0_13 x45_2).f3.f3.f1))).setCell ⟨gb215, 8, none⟩ (.int .i64 ((rd_T46 l0_13 x45_2).f4.f0))).setCell ⟨gb215, 9, none⟩ (.int .i64 ((rd_T46 l0_13 x45_2).f4.f1))).setCell ⟨gb215, 10, none⟩ (.int .i64 ((rd_T46 l0_13 x45_2).f4.f2))).setCell ⟨gb215, 11, none⟩ (.bool ((rd_T46 l0_13 x45_2).f4.f3.f0))).setCell ⟨gb215, 12, none⟩ (.int .i64 ((rd_T46 l0_13 x45_2).f4.f3.f1))).setCell ⟨gb215, 13, none⟩ (.slice A214_13 ((rd_T46 l0_13 x45_2).f5).length c214_13))) := ⟨bl4_ HB.out GE195.out GE196.out GE210.out GE215.out⟩; (try clear BK195); (try clear BK196); (try clear BK210); (try clear BK215); (try clear HB); generalize ((((((((((((((w62.setCell ⟨gb215, 0, none⟩ (.int .i64 ((rd_T46 l0_13 x45_2).f0))).setCell ⟨gb215, 1, none⟩ (.int .i64 ((rd_T46 l0_13 x45_2).f1))).setCell ⟨gb215, 2, none⟩ (.int .i64 ((rd_T46 l0_13 x45_2).f2))).setCell ⟨gb215, 3, none⟩ (.int .i64 ((rd_T46 l0_13 x45_2).f3.f0))).setCell ⟨gb215, 4, none⟩ (.int .i64 ((rd_T46 l0_13 x45_2).f3.f1))).setCell ⟨gb215, 5, none⟩ (.int .i64 ((rd_T46 l0_13 x45_2).f3.f2))).setCell ⟨gb215, 6, none⟩ (.bool ((rd_T46 l0_13 x45_2).f3.f3.f0))).setCell ⟨gb215, 7, none⟩ (.int .i64 ((rd_T46 l0_13 x45_2).f3.f3.f1))).setCell ⟨gb215, 8, none⟩ (.int .i64 ((rd_T46 l0_13 x45_2).f4.f0))).setCell ⟨gb215, 9, none⟩ (.int .i64 ((rd_T46 l0_13 x45_2).f4.f1))).setCell ⟨gb215, 10, none⟩ (.int .i64 ((rd_T46 l0_13 x45_2).f4.f2))).setCell ⟨gb215, 11, none⟩ (.bool ((rd_T46 l0_13 x45_2).f4.f3.f0))).setCell ⟨gb215, 12, none⟩ (.int .i64 ((rd_T46 l0_13 x45_2).f4.f3.f1))).setCell ⟨gb215, 13, none⟩ (.slice A214_13 ((rd_T46 l0_13 x45_2).f5).length c214_13)) = w67 at n0_ n1_ n2_ n3_ n4_ ⊢
             have BK195 := n0_; have BK196 := n1_; have BK210 := n2_; have BK215 := n3_; have HB := n4_; clear n0_ n1_ n2_ n3_ n4_; replace BK195 := Aside0.mk (blk_drew BK195.out); replace BK196 := Aside0.mk (blk_drew BK196.out); replace BK210 := Aside0.mk (blk_drew BK210.out); replace BK215 := Aside0.mk (blk_drew BK215.out); replace HB := Aside0.mk (below_drew1 HB.out); refine start_ (n := 7) (S := fun w' => w'.cell? ⟨gb210, 0, none⟩ = some (.bool x211000_2) ∧ w'.cell? ⟨gb210, 1, none⟩ = some (.bool x211001_2) ∧ w'.cell? ⟨gb210, 2, none⟩ = some (.bool x211002_2) ∧ w'.cell? ⟨gb215, 0, none⟩ = some (.int .i64 ((rd_T46 l0_13 x45_2).f0)) ∧ w'.cell? ⟨gb215, 1, none⟩ = some (.int .i64 ((rd_T46 l0_13 x45_2).f1)) ∧ w'.cell? ⟨gb215, 2, none⟩ = some (.int .i64 ((rd_T46 l0_13 x45_2).f2)) ∧ w'.cell? ⟨gb215, 3, none⟩ = some (.int .i64 ((rd_T46 l0_13 x45_2).f3.f0)) ∧ w'.cell? ⟨gb215, 4, none⟩ = some (.int .i64 ((rd_T46 l0_13 x45_2).f3.f1)) ∧ w'.cell? ⟨gb215, 5, none⟩ = some (.int .i64 ((rd_T46 l0_13 x45_2).f3.f2)) ∧ w'.cell? ⟨gb215, 6, none⟩ = some (.bool ((rd_T46 l0_13 x45_2).f3.f3.f0)) ∧ w'.cell? ⟨gb215, 7, none⟩ = some (.int .i64 ((rd_T46 l0_13 x45_2).f3.f3.f1)) ∧ w'.cell? ⟨gb215, 8, none⟩ = some (.int .i64 ((rd_T46 l0_13 x45_2).f4.f0)) ∧ w'.cell? ⟨gb215, 9, none⟩ = some (.int .i64 ((rd_T46 l0_13 x45_2).f4.f1)) ∧ w'.cell? ⟨gb215, 10, none⟩ = some (.int .i64 ((rd_T46 l0_13 x45_2).f4.f2)) ∧ w'.cell? ⟨gb215, 11, none⟩ = some (.bool ((rd_T46 l0_13 x45_2).f4.f3.f0)) ∧ w'.cell? ⟨gb215, 12, none⟩ = some (.int .i64 ((rd_T46 l0_13 x45_2).f4.f3.f1)) ∧ w'.cell? ⟨gb215, 13, none⟩ = some (.slice A214_13 ((rd_T46 l0_13 x45_2).f5).length c214_13)) (ds := [6]) #[false, false, false, false, false, false, false] (by kernel_rfl) rfl rfl (bc2_ BK210.out BK215.out) (fun hHeld => ?_); generalize w67.drew = w68 at BK195 BK196 BK210 BK215 HB hHeld ⊢; refine pure_ (i := 2) (N := some 51) (v := ?_) (a' := ?_) #[false, false, true, false, false, false, false] rfl rfl (by kernel_rfl) (fun _ _ _ h => h) (Or.inl ⟨by rfl, ?_⟩) ?_ ?_
             rotate_left
             ·intro w'
              go_simp
              with_reducible rfl
             rotate_left
             ·simp only [Act.put, List.setIfInBounds_toArray, List.set_cons_zero, List.set_cons_succ, i64_w, i32_w]
              rfl
             refine pure_ (i := 4) (N := some 53) (v := ?_) (a' := ?_) #[false, false, true, false, true, false, false] rfl rfl (by kernel_rfl) (fun _ _ _ h => h) (Or.inl ⟨by rfl, ?_⟩) ?_ ?_; rotate_left
             ·intro w'
              go_simp
              with_reducible rfl
             rotate_left
             ·simp only [Act.put, List.setIfInBounds_toArray, List.set_cons_zero, List.set_cons_succ, i64_w, i32_w]
              rfl
             refine take_ (i := 0) (N := some 49) (v := ?_) (a' := ?_) #[true, false, true, false, true, false, false] rfl rfl (by kernel_rfl) (fun _ _ _ h => h) (Or.inl ⟨by rfl, ?_⟩) hHeld ?_ ?_; rotate_left
             ·rintro w' ⟨s0, s1, s2, s3, s4, s5, s6, s7, s8, s9, s10, s11, s12, s13, s14, s15, s16⟩
              go_simp
              with_reducible rfl
             rotate_left
             ·simp only [Act.put, List.setIfInBounds_toArray, List.set_cons_zero, List.set_cons_succ, i64_w, i32_w]
              rfl
             refine take_ (i := 1) (N := some 50) (v := ?_) (a' := ?_) #[true, true, true, false, true, false, false] rfl rfl (by kernel_rfl) (fun _ _ _ h => h) (Or.inl ⟨by rfl, ?_⟩) hHeld ?_ ?_; rotate_left
             ·rintro w' ⟨s0, s1, s2, s3, s4, s5, s6, s7, s8, s9, s10, s11, s12, s13, s14, s15, s16⟩
              go_simp
              with_reducible rfl
             rotate_left
             ·simp only [Act.put, List.setIfInBounds_toArray, List.set_cons_zero, List.set_cons_succ, i64_w, i32_w]
              rfl
             refine one_ (i := 3) (N := some 52) #[true, true, true, true, true, false, false] rfl rfl (by kernel_rfl) (by decide) (fun K hK => ?_); refine goes_ Try.func26 (by kernel_rfl) rfl #[.agg #[.int .i64 ((rd_T46 l0_13 x45_2).f0), .int .i64 ((rd_T46 l0_13 x45_2).f1), .int .i64 ((rd_T46 l0_13 x45_2).f2), .int .i64 ((rd_T46 l0_13 x45_2).f3.f0), .int .i64 ((rd_T46 l0_13 x45_2).f3.f1), .int .i64 ((rd_T46 l0_13 x45_2).f3.f2), .bool ((rd_T46 l0_13 x45_2).f3.f3.f0), .int .i64 ((rd_T46 l0_13 x45_2).f3.f3.f1), .int .i64 ((rd_T46 l0_13 x45_2).f4.f0), .int .i64 ((rd_T46 l0_13 x45_2).f4.f1), .int .i64 ((rd_T46 l0_13 x45_2).f4.f2), .bool ((rd_T46 l0_13 x45_2).f4.f3.f0), .int .i64 ((rd_T46 l0_13 x45_2).f4.f3.f1), .slice A214_13 ((rd_T46 l0_13 x45_2).f5).length c214_13], .int .u64 a1] (by rfl) rfl rfl (by (try simp only [List.map_toArray, List.map_cons, List.map_nil]); first | done | rfl | (simp only [List.length_drop, List.length_take]; rfl)) ?_; with_reducible refine (ih k2 (by have := HJ36.out; have := HK2.out; omega) ((rd_T46 l0_13 x45_2).f0) ((rd_T46 l0_13 x45_2).f1) ((rd_T46 l0_13 x45_2).f2) ((rd_T46 l0_13 x45_2).f3.f0) ((rd_T46 l0_13 x45_2).f3.f1) ((rd_T46 l0_13 x45_2).f3.f2) ((rd_T46 l0_13 x45_2).f3.f3.f0) ((rd_T46 l0_13 x45_2).f3.f3.f1) ((rd_T46 l0_13 x45_2).f4.f0) ((rd_T46 l0_13 x45_2).f4.f1) ((rd_T46 l0_13 x45_2).f4.f2) ((rd_T46 l0_13 x45_2).f4.f3.f0) ((rd_T46 l0_13 x45_2).f4.f3.f1) _ _ ((rd_T46 l0_13 x45_2).f5) a1 t216 t217 t218 _ ?side1 ?side2 A60.out).mono ?_
             (case side1 => exact cd_ (Kd.C_below HR214_13.out HB.out))
             (case side2 => exact HC214_13.out)
             rintro e w69 ⟨rfl, hb⟩; refine ⟨_, rfl, ?_⟩; replace BK195 := bb_ BK195 hb; replace BK196 := bb_ BK196 hb; replace BK210 := bb_ BK210 hb; replace BK215 := bb_ BK215 hb; replace HB := bs4_ HB GE195 GE196 GE210 GE215 hb; (try clear hb); (try clear hb2); (try clear hk); (try clear hi); refine hK.out _ _ (bc2_ BK210.out BK215.out) (fun hHeld => ?_); clear hK K; refine norm_ (a' := ?_) ?_ ?_; rotate_left
             ·show Act.put _ (some 52) _ = _
              simp only [Act.put, List.setIfInBounds_toArray, List.set_cons_zero, List.set_cons_succ, i64_w, i32_w]; rfl
             refine one_ (i := 5) (N := some 54) #[true, true, true, true, true, true, false] rfl rfl (by kernel_rfl) (by decide) (fun K hK => ?_); refine goes_ Try.func62 (by kernel_rfl) rfl #[.agg #[.bool x211000_2, .bool x211001_2, .bool x211002_2], .agg #[.bool t216, .bool t217, .bool t218], .func (.func 61) #[] #[]] (by rfl) rfl rfl (by (try simp only [List.map_toArray, List.map_cons, List.map_nil]); first | done | rfl | (simp only [List.length_drop, List.length_take]; rfl)) ?_; with_reducible refine (reject_both_at_logic_Or.calls k2 x211000_2 x211001_2 x211002_2 t216 t217 t218  t219 t220 t221 _ A61.out).mono ?_
             rintro e w70 ⟨rfl, hb⟩; refine ⟨_, rfl, ?_⟩; replace BK195 := bb_ BK195 hb; replace BK196 := bb_ BK196 hb; replace BK210 := bb_ BK210 hb; replace BK215 := bb_ BK215 hb; replace HB := bs4_ HB GE195 GE196 GE210 GE215 hb; (try clear hb); (try clear hb2); (try clear hk); (try clear hi); refine hK.out _ _ (bc2_ BK210.out BK215.out) (fun hHeld => ?_); clear hK K; refine norm_ (a' := ?_) ?_ ?_; rotate_left
             ·show Act.put _ (some 54) _ = _
              simp only [Act.put, List.setIfInBounds_toArray, List.set_cons_zero, List.set_cons_succ, i64_w, i32_w]; rfl
             refine last_ (i := 6) (N := none) #[true, true, true, true, true, true, true] rfl rfl (by kernel_rfl) (by decide) (fun K hK => ?_); have hs71 : w70.cell? ⟨gb210, 0, none⟩ = some (.bool x211000_2) := (blk_cell BK210.out 0).trans rfl; have hfs71 := blk_frozen BK210.out 0; have hns71_0 := NB195_210.out; have hns71_1 := NB196_210.out; have hns71_3 := NB215_210.out; have hms71_0 := NB210_195.out; have hms71_1 := NB210_196.out; have hms71_3 := NB210_215.out; have hs72 : w70.cell? ⟨gb210, 1, none⟩ = some (.bool x211001_2) := (blk_cell BK210.out 1).trans rfl; have hfs72 := blk_frozen BK210.out 1; have hns72_0 := NB195_210.out; have hns72_1 := NB196_210.out; have hns72_3 := NB215_210.out; have hms72_0 := NB210_195.out; have hms72_1 := NB210_196.out; have hms72_3 := NB210_215.out; have hs73 : w70.cell? ⟨gb210, 2, none⟩ = some (.bool x211002_2) := (blk_cell BK210.out 2).trans rfl; have hfs73 := blk_frozen BK210.out 2; have hns73_0 := NB195_210.out; have hns73_1 := NB196_210.out; have hns73_3 := NB215_210.out; have hms73_0 := NB210_195.out; have hms73_1 := NB210_196.out; have hms73_3 := NB210_215.out; refine skip_ (w1 := ?_) (by rfl) rfl ?_ ?_; rotate_left
             ·go_simp
              rfl
             refine hK.out _ _ ?_; clear hK K; refine done_ (by kernel_rfl) ?_; try go_wp2
             go_roundg k2
             case measure => have := HJ36.out; have := HK2.out; omega
             case rel => exact ⟨(wrap64 (x45_2 + 1)), (t219), (t220), (t221), (by first | rfl | (simp; done) | (simp [*]; done) | (simp; decide)), H', ⟨by have := HJ36.out; have := HK2.out; omega⟩, ⟨bf1_ BK195.out NB195_210.out⟩, ⟨bf1_ BK196.out NB196_210.out⟩, ⟨by (with_reducible repeat (first | refine blk_drewN ?_ _ | refine blk_drew ?_ | refine blk_alloc ?_ _)); refine blk_put (cs := #[.bool t219, .bool t220, .bool x211002_2]) ?_ 2 _ rfl; (with_reducible repeat (first | refine blk_drewN ?_ _ | refine blk_drew ?_ | refine blk_alloc ?_ _)); refine blk_put (cs := #[.bool t219, .bool x211001_2, .bool x211002_2]) ?_ 1 _ rfl; (with_reducible repeat (first | refine blk_drewN ?_ _ | refine blk_drew ?_ | refine blk_alloc ?_ _)); refine blk_put (cs := #[.bool x211000_2, .bool x211001_2, .bool x211002_2]) ?_ 0 _ rfl; (with_reducible repeat (first | refine blk_drewN ?_ _ | refine blk_drew ?_ | refine blk_alloc ?_ _)); exact BK210.out⟩, ⟨bl4_ HB.out GE195.out GE196.out GE210.out GE215.out⟩⟩
            ·rw [if_neg c59] at H
             exact absurd H (by simp)
           ·rw [if_neg c58] at H
            exact absurd H (by simp)
          ·rw [if_neg c57] at H
           have c57b0 : decide (x45_2 < (l0_13.length : Int)) = false := decide_eq_false c57; clear c57; simp only [Option.some.injEq, Prod.mk.injEq] at H; obtain ⟨rfl, rfl, rfl⟩ := H; have hnb74 := NB210_195.out; have hnc74 := NB195_210.out; have hnb75 := NB210_196.out; have hnc75 := NB196_210.out; have hcz76 := blk_cell BK210.out; have hfz76 := blk_frozen BK210.out; have hnb77 := NB196_195.out; have hnc77 := NB195_196.out; have hcz78 := blk_cell BK196.out; have hfz78 := blk_frozen BK196.out; go_wp2; refine bodyPost_ret (results_cell_row rfl _ _ gb196 39 #[.bool x211000_2, .bool x211001_2, .bool x211002_2] (0, 0) _ rfl (by (with_reducible repeat (first | refine blk_drewN ?_ _ | refine blk_drew ?_ | refine blk_alloc ?_ _)); refine blk_put (cs := #[.bool x211000_2, .bool x211001_2, .bool false]) ?_ 2 _ rfl; (with_reducible repeat (first | refine blk_drewN ?_ _ | refine blk_drew ?_ | refine blk_alloc ?_ _)); refine blk_put (cs := #[.bool x211000_2, .bool false, .bool false]) ?_ 1 _ rfl; (with_reducible repeat (first | refine blk_drewN ?_ _ | refine blk_drew ?_ | refine blk_alloc ?_ _)); refine blk_put (cs := #[.bool false, .bool false, .bool false]) ?_ 0 _ rfl; (with_reducible repeat (first | refine blk_drewN ?_ _ | refine blk_drew ?_ | refine blk_alloc ?_ _)); exact BK196.out) Try.underlying39 rfl (by kernel_rfl)) rfl ?_; exact ⟨rr_, bl3_ HB.out GE195.out GE196.out GE210.out⟩
       ·rw [if_neg c45] at H
        have c45b0 : (a0_0 == 5) = false := beq_eq_false_iff_ne.mpr c45; have c45b1 : (a0_0 != 5) = true := bne_iff_ne.mpr c45; have H' := Aside0.mk H; clear H; go_wp2_with (first | ((with_reducible refine gate_callee (f := 57) rfl ?_); refine goesL_ (some 37) rfl rfl Try.func57 (by kernel_rfl) rfl #[.int .i64 2] rfl (by (try simp only [List.map_toArray, List.map_cons, List.map_nil]); first | done | rfl | (simp only [List.length_drop, List.length_take]; rfl)) ?_; (with_reducible refine (reject_only.calls kj36 2 t207 t208 t209 _ A44.out).mono ?_); rintro e w79 ⟨rfl, hb⟩; refine ⟨_, rfl, ?_⟩; replace BK195 := bb_ BK195 hb; replace BK196 := bb_ BK196 hb; replace HB := bs2_ HB GE195 GE196 hb; (try clear hb)) | ((with_reducible refine gate_dst (N := 5) rfl ?_); refine box_event ?hg (N := 5) ?hd (cs := #[.bool false, .bool false, .bool false]) (t := 39) ?hr ?_; (case hd => rfl); (case hg => rfl); (case hr => first | (go_simp; done) | (go_simp; rfl)); intro gb210 hg w80 hbox hb; have BK210 := Aside0.mk (hbox); have GW210 := Aside0.mk ((by rw [hg]; exact (below_size (bl2_ HB.out GE195.out GE196.out)) : w.heap.size ≤ gb210)); replace HB := bs2_ HB GE195 GE196 hb; have GE210 := GW210; have NB195_210 := Aside0.mk ((by rw [hg]; exact Nat.ne_of_lt (blk_lt (bk_ BK195.out)) : gb195 ≠ gb210)); have NB210_195 := Aside0.mk ((by rw [hg]; exact Nat.ne_of_gt (blk_lt (bk_ BK195.out)) : gb210 ≠ gb195)); replace BK195 := bb_ BK195 hb; have NB196_210 := Aside0.mk ((by rw [hg]; exact Nat.ne_of_lt (blk_lt (bk_ BK196.out)) : gb196 ≠ gb210)); have NB210_196 := Aside0.mk ((by rw [hg]; exact Nat.ne_of_gt (blk_lt (bk_ BK196.out)) : gb210 ≠ gb196)); replace BK196 := bb_ BK196 hb; clear hb hbox hg; have hnb81 := NB210_195.out; have hnc81 := NB195_210.out; have hnb82 := NB210_196.out; have hnc82 := NB196_210.out; have hcz83 := blk_cell BK210.out; have hfz83 := blk_frozen BK210.out; have hnb84 := NB195_196.out; have hnc84 := NB196_195.out; have hcz85 := blk_cell BK195.out; have hfz85 := blk_frozen BK195.out; have hfz85_13 := blk_frozen BK195.out 13))
        go_loopg [45] kj36 (fun kq v45 w' => ∃ (x45_2 : Int) (x211000_2 : Bool) (x211001_2 : Bool) (x211002_2 : Bool), v45 = .int .i64 x45_2 ∧ Aside0 (reject_May.l101 kq a1 l0_13 (l0_13.length : Int) x45_2 x211000_2 x211001_2 x211002_2 = some (r1, r2, r3)) ∧ Aside0 (kq ≤ kj36) ∧ Aside0 (w'.heap[gb195]? = some (.cells #[.int .i64 a0_0, .int .i64 a0_1, .int .i64 a0_2, .int .i64 a0_3, .int .i64 a0_4, .int .i64 a0_5, .bool a0_6, .int .i64 a0_7, .int .i64 a0_8, .int .i64 a0_9, .int .i64 a0_10, .bool a0_11, .int .i64 a0_12, (.slice A0_13 l0_13.length c0_13)] 46 (0, 0))) ∧ Aside0 (w'.heap[gb196]? = some (.cells #[.bool false, .bool false, .bool false] 39 (0, 0))) ∧ Aside0 (w'.heap[gb210]? = some (.cells #[.bool x211000_2, .bool x211001_2, .bool x211002_2] 39 (0, 0))) ∧ Aside0 (Below w.heap.size w w'))
        case atStart => exact ⟨(0), (t207), (t208), (t209), (by first | rfl | (simp; done) | (simp [*]; done) | (simp; decide)), H', ⟨Nat.le_refl _⟩, ⟨bf1_ BK195.out NB195_210.out⟩, ⟨bf1_ BK196.out NB196_210.out⟩, ⟨by (with_reducible repeat (first | refine blk_drewN ?_ _ | refine blk_drew ?_ | refine blk_alloc ?_ _)); refine blk_put (cs := #[.bool t207, .bool t208, .bool false]) ?_ 2 _ rfl; (with_reducible repeat (first | refine blk_drewN ?_ _ | refine blk_drew ?_ | refine blk_alloc ?_ _)); refine blk_put (cs := #[.bool t207, .bool false, .bool false]) ?_ 1 _ rfl; (with_reducible repeat (first | refine blk_drewN ?_ _ | refine blk_drew ?_ | refine blk_alloc ?_ _)); refine blk_put (cs := #[.bool false, .bool false, .bool false]) ?_ 0 _ rfl; (with_reducible repeat (first | refine blk_drewN ?_ _ | refine blk_drew ?_ | refine blk_alloc ?_ _)); exact BK210.out⟩, ⟨bl3_ HB.out GE195.out GE196.out GE210.out⟩⟩
        case round =>
         clear H'; try clear c1
         try clear c2
         try clear p2
         try clear q2
         try clear hx2
         try clear c3
         try clear c3b0
         try clear c3b1
         try clear c4
         try clear c5
         try clear c6
         try clear p6
         try clear c7
         try clear c8
         try clear c10
         try clear c11
         try clear c11b0
         try clear c11b1
         try clear c15
         try clear c19
         try clear c19b0
         try clear c19b1
         try clear c21
         try clear p21
         try clear q21
         try clear hx21
         try clear c25
         try clear c26
         try clear c32
         try clear c40
         try clear c42
         try clear c42b0
         try clear c42b1
         try clear c43
         try clear c45
         try clear c45b0
         try clear c45b1
         try clear c49
         try clear c50
         try clear c52
         try clear c57
         try clear c57b0
         try clear c58
         try clear c58b0
         try clear c59
         try clear c59b0
         try clear c63
         try clear c64
         try clear p64
         try clear c65
         try clear c74
         try clear c75
         try clear c77
         try clear c81
         try clear c82
         try clear c84
         try clear hcz10
         try clear hcz16
         try clear hcz18
         try clear hcz26
         try clear hcz29
         try clear hcz33
         try clear hcz35
         try clear hcz36
         try clear hcz41
         try clear hcz51
         try clear hcz53
         try clear hcz55
         try clear hcz56
         try clear hcz66
         try clear hcz76
         try clear hcz78
         try clear hcz83
         try clear hcz85
         try clear hcz8
         try clear hfz10_0
         try clear hfz10_1
         try clear hfz10_2
         try clear hfz16
         try clear hfz16_13
         try clear hfz16
         try clear hfz18_0
         try clear hfz18_1
         try clear hfz18_2
         try clear hfz26
         try clear hfz26_13
         try clear hfz26
         try clear hfz29_0
         try clear hfz29_1
         try clear hfz29_2
         try clear hfz33
         try clear hfz33_13
         try clear hfz33
         try clear hfz35
         try clear hfz36_0
         try clear hfz36_1
         try clear hfz36_2
         try clear hfz41
         try clear hfz41_13
         try clear hfz41
         try clear hfz51
         try clear hfz53
         try clear hfz53_13
         try clear hfz53
         try clear hfz55
         try clear hfz56
         try clear hfz56_13
         try clear hfz56
         try clear hfz66
         try clear hfz66_13
         try clear hfz66
         try clear hfz76
         try clear hfz78
         try clear hfz83
         try clear hfz85
         try clear hfz85_13
         try clear hfz85
         try clear hfz8
         try clear hfz8_13
         try clear hfz8
         try clear hx214_0
         try clear hx214_1
         try clear hx214_10
         try clear hx214_11
         try clear hx214_12
         try clear hx214_13
         try clear hx214_2
         try clear hx214_3
         try clear hx214_4
         try clear hx214_5
         try clear hx214_6
         try clear hx214_7
         try clear hx214_8
         try clear hx214_9
         try clear p2
         try clear p214
         try clear q214
         obtain ⟨x45_2, x211000_2, x211001_2, x211002_2, rfl, HA, HK2, BK195, BK196, BK210, HB⟩ := hrel; cases gk with
         | zero => exact absurd HA.out (by simp [reject_May.l101])
         | succ k2 =>
          have H := HA.out; clear HA; simp only [reject_May.l101] at H; by_cases c86 : x45_2 < (l0_13.length : Int)
          ·rw [if_pos c86] at H
           have c86b0 : decide (x45_2 < (l0_13.length : Int)) = true := decide_eq_true c86; clear c86; by_cases c87 : 0 ≤ x45_2
           ·rw [if_pos c87] at H
            have c87b0 : decide (0 ≤ x45_2) = true := decide_eq_true c87; clear c87; by_cases c88 : x45_2 < (l0_13.length : Int)
            ·rw [if_pos c88] at H
             have c88b0 : decide (x45_2 < (l0_13.length : Int)) = true := decide_eq_true c88; clear c88; replace H := Option.bind_eq_some_iff.mp H; obtain ⟨⟨t224, t225, t226⟩, A890, H⟩ := H; replace H : ((reject_both_at_logic_And.f k2 x211000_2 x211001_2 x211002_2 t224 t225 t226).bind fun bt227 => (reject_May.l101 k2 a1 l0_13 (l0_13.length : Int) (wrap64 (x45_2 + 1)) bt227.1 bt227.2.1 bt227.2.2)) = some (r1, r2, r3) := H; have A89 := Aside0.mk A890; clear A890; replace H := Option.bind_eq_some_iff.mp H; obtain ⟨⟨t227, t228, t229⟩, A900, H⟩ := H; replace H : (reject_May.l101 k2 a1 l0_13 (l0_13.length : Int) (wrap64 (x45_2 + 1)) t227 t228 t229) = some (r1, r2, r3) := H; have A90 := Aside0.mk A900; clear A900; have H' := Aside0.mk H; clear H; have p222 : 0 ≤ (x45_2 : Int) := of_decide_eq_true (by first | (with_reducible assumption) | assumption); have q222 : x45_2 < (l0_13.length : Int) := of_decide_eq_true (by first | (with_reducible assumption) | assumption); obtain ⟨ad222, A222_13, c222_13, e222, hx222_0, hx222_1, hx222_2, hx222_3, hx222_4, hx222_5, hx222_6, hx222_7, hx222_8, hx222_9, hx222_10, hx222_11, hx222_12, hx222_13, hl222_13, hi222_13⟩ := at_T46 HR0_13.out x45_2 p222 q222; cases e222; replace hx222_0 := hc_ HB.out hx222_0; replace hx222_1 := hc_ HB.out hx222_1; replace hx222_2 := hc_ HB.out hx222_2; replace hx222_3 := hc_ HB.out hx222_3; replace hx222_4 := hc_ HB.out hx222_4; replace hx222_5 := hc_ HB.out hx222_5; replace hx222_6 := hc_ HB.out hx222_6; replace hx222_7 := hc_ HB.out hx222_7; replace hx222_8 := hc_ HB.out hx222_8; replace hx222_9 := hc_ HB.out hx222_9; replace hx222_10 := hc_ HB.out hx222_10; replace hx222_11 := hc_ HB.out hx222_11; replace hx222_12 := hc_ HB.out hx222_12; replace hx222_13 := hc_ HB.out hx222_13; have HR222_13 := Aside0.mk hi222_13; have HC222_13 := Aside0.mk hl222_13; clear hi222_13 hl222_13; replace p222 := eq_true p222; replace q222 := eq_true q222; try go_wp2_with (first | ((with_reducible refine gate_dst (N := 8) rfl ?_); refine box_event ?hg (N := 8) ?hd (cs := #[.int .i64 0, .int .i64 0, .int .i64 0, .int .i64 0, .int .i64 0, .int .i64 0, .bool false, .int .i64 0, .int .i64 0, .int .i64 0, .int .i64 0, .bool false, .int .i64 0, .slice none 0 0]) (t := 46) ?hr ?_; (case hd => rfl); (case hg => rfl); (case hr => first | (go_simp; done) | (go_simp; rfl)); intro gb223 hg w91 hbox hb; have BK223 := Aside0.mk (hbox); have GW223 := Aside0.mk ((by rw [hg]; exact (below_size (bl3_ HB.out GE195.out GE196.out GE210.out)) : w.heap.size ≤ gb223)); replace HB := bs3_ HB GE195 GE196 GE210 hb; have GE223 := GW223; have NB195_223 := Aside0.mk ((by rw [hg]; exact Nat.ne_of_lt (blk_lt (bk_ BK195.out)) : gb195 ≠ gb223)); have NB223_195 := Aside0.mk ((by rw [hg]; exact Nat.ne_of_gt (blk_lt (bk_ BK195.out)) : gb223 ≠ gb195)); replace BK195 := bb_ BK195 hb; have NB196_223 := Aside0.mk ((by rw [hg]; exact Nat.ne_of_lt (blk_lt (bk_ BK196.out)) : gb196 ≠ gb223)); have NB223_196 := Aside0.mk ((by rw [hg]; exact Nat.ne_of_gt (blk_lt (bk_ BK196.out)) : gb223 ≠ gb196)); replace BK196 := bb_ BK196 hb; have NB210_223 := Aside0.mk ((by rw [hg]; exact Nat.ne_of_lt (blk_lt (bk_ BK210.out)) : gb210 ≠ gb223)); have NB223_210 := Aside0.mk ((by rw [hg]; exact Nat.ne_of_gt (blk_lt (bk_ BK210.out)) : gb223 ≠ gb210)); replace BK210 := bb_ BK210 hb; clear hb hbox hg; have hnb92 := NB223_195.out; have hnc92 := NB195_223.out; have hnb93 := NB223_196.out; have hnc93 := NB196_223.out; have hnb94 := NB223_210.out; have hnc94 := NB210_223.out; have hcz95 := blk_cell BK223.out; have hfz95 := blk_frozen BK223.out; have hfz95_13 := blk_frozen BK223.out 13))
             have n0_ : Aside0 (((((((((((((((w91.setCell ⟨gb223, 0, none⟩ (.int .i64 ((rd_T46 l0_13 x45_2).f0))).setCell ⟨gb223, 1, none⟩ (.int .i64 ((rd_T46 l0_13 x45_2).f1))).setCell ⟨gb223, 2, none⟩ (.int .i64 ((rd_T46 l0_13 x45_2).f2))).setCell ⟨gb223, 3, none⟩ (.int .i64 ((rd_T46 l0_13 x45_2).f3.f0))).setCell ⟨gb223, 4, none⟩ (.int .i64 ((rd_T46 l0_13 x45_2).f3.f1))).setCell ⟨gb223, 5, none⟩ (.int .i64 ((rd_T46 l0_13 x45_2).f3.f2))).setCell ⟨gb223, 6, none⟩ (.bool ((rd_T46 l0_13 x45_2).f3.f3.f0))).setCell ⟨gb223, 7, none⟩ (.int .i64 ((rd_T46 l0_13 x45_2).f3.f3.f1))).setCell ⟨gb223, 8, none⟩ (.int .i64 ((rd_T46 l0_13 x45_2).f4.f0))).setCell ⟨gb223, 9, none⟩ (.int .i64 ((rd_T46 l0_13 x45_2).f4.f1))).setCell ⟨gb223, 10, none⟩ (.int .i64 ((rd_T46 l0_13 x45_2).f4.f2))).setCell ⟨gb223, 11, none⟩ (.bool ((rd_T46 l0_13 x45_2).f4.f3.f0))).setCell ⟨gb223, 12, none⟩ (.int .i64 ((rd_T46 l0_13 x45_2).f4.f3.f1))).setCell ⟨gb223, 13, none⟩ (.slice A222_13 ((rd_T46 l0_13 x45_2).f5).length c222_13)).heap[gb195]? = some (.cells #[.int .i64 a0_0, .int .i64 a0_1, .int .i64 a0_2, .int .i64 a0_3, .int .i64 a0_4, .int .i64 a0_5, .bool a0_6, .int .i64 a0_7, .int .i64 a0_8, .int .i64 a0_9, .int .i64 a0_10, .bool a0_11, .int .i64 a0_12, .slice (some ad222) l0_13.length c0_13] 46 (0, 0))) := ⟨bf1_ BK195.out NB195_223.out⟩; have n1_ : Aside0 (((((((((((((((w91.setCell ⟨gb223, 0, none⟩ (.int .i64 ((rd_T46 l0_13 x45_2).f0))).setCell ⟨gb223, 1, none⟩ (.int .i64 ((rd_T46 l0_13 x45_2).f1))).setCell ⟨gb223, 2, none⟩ (.int .i64 ((rd_T46 l0_13 x45_2).f2))).setCell ⟨gb223, 3, none⟩ (.int .i64 ((rd_T46 l0_13 x45_2).f3.f0))).setCell ⟨gb223, 4, none⟩ (.int .i64 ((rd_T46 l0_13 x45_2).f3.f1))).setCell ⟨gb223, 5, none⟩ (.int .i64 ((rd_T46 l0_13 x45_2).f3.f2))).setCell ⟨gb223, 6, none⟩ (.bool ((rd_T46 l0_13 x45_2).f3.f3.f0))).setCell ⟨gb223, 7, none⟩ (.int .i64 ((rd_T46 l0_13 x45_2).f3.f3.f1))).setCell ⟨gb223, 8, none⟩ (.int .i64 ((rd_T46 l0_13 x45_2).f4.f0))).setCell ⟨gb223, 9, none⟩ (.int .i64 ((rd_T46 l0_13 x45_2).f4.f1))).setCell ⟨gb223, 10, none⟩ (.int .i64 ((rd_T46 l0_13 x45_2).f4.f2))).setCell ⟨gb223, 11, none⟩ (.bool ((rd_T46 l0_13 x45_2).f4.f3.f0))).setCell ⟨gb223, 12, none⟩ (.int .i64 ((rd_T46 l0_13 x45_2).f4.f3.f1))).setCell ⟨gb223, 13, none⟩ (.slice A222_13 ((rd_T46 l0_13 x45_2).f5).length c222_13)).heap[gb196]? = some (.cells #[.bool false, .bool false, .bool false] 39 (0, 0))) := ⟨bf1_ BK196.out NB196_223.out⟩
             have n2_ : Aside0 (((((((((((((((w91.setCell ⟨gb223, 0, none⟩ (.int .i64 ((rd_T46 l0_13 x45_2).f0))).setCell ⟨gb223, 1, none⟩ (.int .i64 ((rd_T46 l0_13 x45_2).f1))).setCell ⟨gb223, 2, none⟩ (.int .i64 ((rd_T46 l0_13 x45_2).f2))).setCell ⟨gb223, 3, none⟩ (.int .i64 ((rd_T46 l0_13 x45_2).f3.f0))).setCell ⟨gb223, 4, none⟩ (.int .i64 ((rd_T46 l0_13 x45_2).f3.f1))).setCell ⟨gb223, 5, none⟩ (.int .i64 ((rd_T46 l0_13 x45_2).f3.f2))).setCell ⟨gb223, 6, none⟩ (.bool ((rd_T46 l0_13 x45_2).f3.f3.f0))).setCell ⟨gb223, 7, none⟩ (.int .i64 ((rd_T46 l0_13 x45_2).f3.f3.f1))).setCell ⟨gb223, 8, none⟩ (.int .i64 ((rd_T46 l0_13 x45_2).f4.f0))).setCell ⟨gb223, 9, none⟩ (.int .i64 ((rd_T46 l0_13 x45_2).f4.f1))).setCell ⟨gb223, 10, none⟩ (.int .i64 ((rd_T46 l0_13 x45_2).f4.f2))).setCell ⟨gb223, 11, none⟩ (.bool ((rd_T46 l0_13 x45_2).f4.f3.f0))).setCell ⟨gb223, 12, none⟩ (.int .i64 ((rd_T46 l0_13 x45_2).f4.f3.f1))).setCell ⟨gb223, 13, none⟩ (.slice A222_13 ((rd_T46 l0_13 x45_2).f5).length c222_13)).heap[gb210]? = some (.cells #[.bool x211000_2, .bool x211001_2, .bool x211002_2] 39 (0, 0))) := ⟨bf1_ BK210.out NB210_223.out⟩; have n3_ : Aside0 (((((((((((((((w91.setCell ⟨gb223, 0, none⟩ (.int .i64 ((rd_T46 l0_13 x45_2).f0))).setCell ⟨gb223, 1, none⟩ (.int .i64 ((rd_T46 l0_13 x45_2).f1))).setCell ⟨gb223, 2, none⟩ (.int .i64 ((rd_T46 l0_13 x45_2).f2))).setCell ⟨gb223, 3, none⟩ (.int .i64 ((rd_T46 l0_13 x45_2).f3.f0))).setCell ⟨gb223, 4, none⟩ (.int .i64 ((rd_T46 l0_13 x45_2).f3.f1))).setCell ⟨gb223, 5, none⟩ (.int .i64 ((rd_T46 l0_13 x45_2).f3.f2))).setCell ⟨gb223, 6, none⟩ (.bool ((rd_T46 l0_13 x45_2).f3.f3.f0))).setCell ⟨gb223, 7, none⟩ (.int .i64 ((rd_T46 l0_13 x45_2).f3.f3.f1))).setCell ⟨gb223, 8, none⟩ (.int .i64 ((rd_T46 l0_13 x45_2).f4.f0))).setCell ⟨gb223, 9, none⟩ (.int .i64 ((rd_T46 l0_13 x45_2).f4.f1))).setCell ⟨gb223, 10, none⟩ (.int .i64 ((rd_T46 l0_13 x45_2).f4.f2))).setCell ⟨gb223, 11, none⟩ (.bool ((rd_T46 l0_13 x45_2).f4.f3.f0))).setCell ⟨gb223, 12, none⟩ (.int .i64 ((rd_T46 l0_13 x45_2).f4.f3.f1))).setCell ⟨gb223, 13, none⟩ (.slice A222_13 ((rd_T46 l0_13 x45_2).f5).length c222_13)).heap[gb223]? = some (.cells #[.int .i64 ((rd_T46 l0_13 x45_2).f0), .int .i64 ((rd_T46 l0_13 x45_2).f1), .int .i64 ((rd_T46 l0_13 x45_2).f2), .int .i64 ((rd_T46 l0_13 x45_2).f3.f0), .int .i64 ((rd_T46 l0_13 x45_2).f3.f1), .int .i64 ((rd_T46 l0_13 x45_2).f3.f2), .bool ((rd_T46 l0_13 x45_2).f3.f3.f0), .int .i64 ((rd_T46 l0_13 x45_2).f3.f3.f1), .int .i64 ((rd_T46 l0_13 x45_2).f4.f0), .int .i64 ((rd_T46 l0_13 x45_2).f4.f1), .int .i64 ((rd_T46 l0_13 x45_2).f4.f2), .bool ((rd_T46 l0_13 x45_2).f4.f3.f0), .int .i64 ((rd_T46 l0_13 x45_2).f4.f3.f1), .slice A222_13 ((rd_T46 l0_13 x45_2).f5).length c222_13] 46 (0, 0))) := ⟨by (with_reducible repeat (first | refine blk_drewN ?_ _ | refine blk_drew ?_ | refine blk_alloc ?_ _)); refine blk_put (cs := #[.int .i64 ((rd_T46 l0_13 x45_2).f0), .int .i64 ((rd_T46 l0_13 x45_2).f1), .int .i64 ((rd_T46 l0_13 x45_2).f2), .int .i64 ((rd_T46 l0_13 x45_2).f3.f0), .int .i64 ((rd_T46 l0_13 x45_2).f3.f1), .int .i64 ((rd_T46 l0_13 x45_2).f3.f2), .bool ((rd_T46 l0_13 x45_2).f3.f3.f0), .int .i64 ((rd_T46 l0_13 x45_2).f3.f3.f1), .int .i64 ((rd_T46 l0_13 x45_2).f4.f0), .int .i64 ((rd_T46 l0_13 x45_2).f4.f1), .int .i64 ((rd_T46 l0_13 x45_2).f4.f2), .bool ((rd_T46 l0_13 x45_2).f4.f3.f0), .int .i64 ((rd_T46 l0_13 x45_2).f4.f3.f1), .slice none 0 0]) ?_ 13 _ rfl; (with_reducible repeat (first | refine blk_drewN ?_ _ | refine blk_drew ?_ | refine blk_alloc ?_ _)); refine blk_put (cs := #[.int .i64 ((rd_T46 l0_13 x45_2).f0), .int .i64 ((rd_T46 l0_13 x45_2).f1), .int .i64 ((rd_T46 l0_13 x45_2).f2), .int .i64 ((rd_T46 l0_13 x45_2).f3.f0), .int .i64 ((rd_T46 l0_13 x45_2).f3.f1), .int .i64 ((rd_T46 l0_13 x45_2).f3.f2), .bool ((rd_T46 l0_13 x45_2).f3.f3.f0), .int .i64 ((rd_T46 l0_13 x45_2).f3.f3.f1), .int .i64 ((rd_T46 l0_13 x45_2).f4.f0), .int .i64 ((rd_T46 l0_13 x45_2).f4.f1), .int .i64 ((rd_T46 l0_13 x45_2).f4.f2), .bool ((rd_T46 l0_13 x45_2).f4.f3.f0), .int .i64 0, .slice none 0 0]) ?_ 12 _ rfl; (with_reducible repeat (first | refine blk_drewN ?_ _ | refine blk_drew ?_ | refine blk_alloc ?_ _)); refine blk_put (cs := #[.int .i64 ((rd_T46 l0_13 x45_2).f0), .int .i64 ((rd_T46 l0_13 x45_2).f1), .int .i64 ((rd_T46 l0_13 x45_2).f2), .int .i64 ((rd_T46 l0_13 x45_2).f3.f0), .int .i64 ((rd_T46 l0_13 x45_2).f3.f1), .int .i64 ((rd_T46 l0_13 x45_2).f3.f2), .bool ((rd_T46 l0_13 x45_2).f3.f3.f0), .int .i64 ((rd_T46 l0_13 x45_2).f3.f3.f1), .int .i64 ((rd_T46 l0_13 x45_2).f4.f0), .int .i64 ((rd_T46 l0_13 x45_2).f4.f1), .int .i64 ((rd_T46 l0_13 x45_2).f4.f2), .bool false, .int .i64 0, .slice none 0 0]) ?_ 11 _ rfl; (with_reducible repeat (first | refine blk_drewN ?_ _ | refine blk_drew ?_ | refine blk_alloc ?_ _)); refine blk_put (cs := #[.int .i64 ((rd_T46 l0_13 x45_2).f0), .int .i64 ((rd_T46 l0_13 x45_2).f1), .int .i64 ((rd_T46 l0_13 x45_2).f2), .int .i64 ((rd_T46 l0_13 x45_2).f3.f0), .int .i64 ((rd_T46 l0_13 x45_2).f3.f1), .int .i64 ((rd_T46 l0_13 x45_2).f3.f2), .bool ((rd_T46 l0_13 x45_2).f3.f3.f0), .int .i64 ((rd_T46 l0_13 x45_2).f3.f3.f1), .int .i64 ((rd_T46 l0_13 x45_2).f4.f0), .int .i64 ((rd_T46 l0_13 x45_2).f4.f1), .int .i64 0, .bool false, .int .i64 0, .slice none 0 0]) ?_ 10 _ rfl; (with_reducible repeat (first | refine blk_drewN ?_ _ | refine blk_drew ?_ | refine blk_alloc ?_ _)); refine blk_put (cs := #[.int .i64 ((rd_T46 l0_13 x45_2).f0), .int .i64 ((rd_T46 l0_13 x45_2).f1), .int .i64 ((rd_T46 l0_13 x45_2).f2), .int .i64 ((rd_T46 l0_13 x45_2).f3.f0), .int .i64 ((rd_T46 l0_13 x45_2).f3.f1), .int .i64 ((rd_T46 l0_13 x45_2).f3.f2), .bool ((rd_T46 l0_13 x45_2).f3.f3.f0), .int .i64 ((rd_T46 l0_13 x45_2).f3.f3.f1), .int .i64 ((rd_T46 l0_13 x45_2).f4.f0), .int .i64 0, .int .i64 0, .bool false, .int .i64 0, .slice none 0 0]) ?_ 9 _ rfl; (with_reducible repeat (first | refine blk_drewN ?_ _ | refine blk_drew ?_ | refine blk_alloc ?_ _)); refine blk_put (cs := #[.int .i64 ((rd_T46 l0_13 x45_2).f0), .int .i64 ((rd_T46 l0_13 x45_2).f1), .int .i64 ((rd_T46 l0_13 x45_2).f2), .int .i64 ((rd_T46 l0_13 x45_2).f3.f0), .int .i64 ((rd_T46 l0_13 x45_2).f3.f1), .int .i64 ((rd_T46 l0_13 x45_2).f3.f2), .bool ((rd_T46 l0_13 x45_2).f3.f3.f0), .int .i64 ((rd_T46 l0_13 x45_2).f3.f3.f1), .int .i64 0, .int .i64 0, .int .i64 0, .bool false, .int .i64 0, .slice none 0 0]) ?_ 8 _ rfl; (with_reducible repeat (first | refine blk_drewN ?_ _ | refine blk_drew ?_ | refine blk_alloc ?_ _)); refine blk_put (cs := #[.int .i64 ((rd_T46 l0_13 x45_2).f0), .int .i64 ((rd_T46 l0_13 x45_2).f1), .int .i64 ((rd_T46 l0_13 x45_2).f2), .int .i64 ((rd_T46 l0_13 x45_2).f3.f0), .int .i64 ((rd_T46 l0_13 x45_2).f3.f1), .int .i64 ((rd_T46 l0_13 x45_2).f3.f2), .bool ((rd_T46 l0_13 x45_2).f3.f3.f0), .int .i64 0, .int .i64 0, .int .i64 0, .int .i64 0, .bool false, .int .i64 0, .slice none 0 0]) ?_ 7 _ rfl; (with_reducible repeat (first | refine blk_drewN ?_ _ | refine blk_drew ?_ | refine blk_alloc ?_ _)); refine blk_put (cs := #[.int .i64 ((rd_T46 l0_13 x45_2).f0), .int .i64 ((rd_T46 l0_13 x45_2).f1), .int .i64 ((rd_T46 l0_13 x45_2).f2), .int .i64 ((rd_T46 l0_13 x45_2).f3.f0), .int .i64 ((rd_T46 l0_13 x45_2).f3.f1), .int .i64 ((rd_T46 l0_13 x45_2).f3.f2), .bool false, .int .i64 0, .int .i64 0, .int .i64 0, .int .i64 0, .bool false, .int .i64 0, .slice none 0 0]) ?_ 6 _ rfl; (with_reducible repeat (first | refine blk_drewN ?_ _ | refine blk_drew ?_ | refine blk_alloc ?_ _)); refine blk_put (cs := #[.int .i64 ((rd_T46 l0_13 x45_2).f0), .int .i64 ((rd_T46 l0_13 x45_2).f1), .int .i64 ((rd_T46 l0_13 x45_2).f2), .int .i64 ((rd_T46 l0_13 x45_2).f3.f0), .int .i64 ((rd_T46 l0_13 x45_2).f3.f1), .int .i64 0, .bool false, .int .i64 0, .int .i64 0, .int .i64 0, .int .i64 0, .bool false, .int .i64 0, .slice none 0 0]) ?_ 5 _ rfl; (with_reducible repeat (first | refine blk_drewN ?_ _ | refine blk_drew ?_ | refine blk_alloc ?_ _)); refine blk_put (cs := #[.int .i64 ((rd_T46 l0_13 x45_2).f0), .int .i64 ((rd_T46 l0_13 x45_2).f1), .int .i64 ((rd_T46 l0_13 x45_2).f2), .int .i64 ((rd_T46 l0_13 x45_2).f3.f0), .int .i64 0, .int .i64 0, .bool false, .int .i64 0, .int .i64 0, .int .i64 0, .int .i64 0, .bool false, .int .i64 0, .slice none 0 0]) ?_ 4 _ rfl; (with_reducible repeat (first | refine blk_drewN ?_ _ | refine blk_drew ?_ | refine blk_alloc ?_ _)); refine blk_put (cs := #[.int .i64 ((rd_T46 l0_13 x45_2).f0), .int .i64 ((rd_T46 l0_13 x45_2).f1), .int .i64 ((rd_T46 l0_13 x45_2).f2), .int .i64 0, .int .i64 0, .int .i64 0, .bool false, .int .i64 0, .int .i64 0, .int .i64 0, .int .i64 0, .bool false, .int .i64 0, .slice none 0 0]) ?_ 3 _ rfl; (with_reducible repeat (first | refine blk_drewN ?_ _ | refine blk_drew ?_ | refine blk_alloc ?_ _)); refine blk_put (cs := #[.int .i64 ((rd_T46 l0_13 x45_2).f0), .int .i64 ((rd_T46 l0_13 x45_2).f1), .int .i64 0, .int .i64 0, .int .i64 0, .int .i64 0, .bool false, .int .i64 0, .int .i64 0, .int .i64 0, .int .i64 0, .bool false, .int .i64 0, .slice none 0 0]) ?_ 2 _ rfl; (with_reducible repeat (first | refine blk_drewN ?_ _ | refine blk_drew ?_ | refine blk_alloc ?_ _)); refine blk_put (cs := #[.int .i64 ((rd_T46 l0_13 x45_2).f0), .int .i64 0, .int .i64 0, .int .i64 0, .int .i64 0, .int .i64 0, .bool false, .int .i64 0, .int .i64 0, .int .i64 0, .int .i64 0, .bool false, .int .i64 0, .slice none 0 0]) ?_ 1 _ rfl; (with_reducible repeat (first | refine blk_drewN ?_ _ | refine blk_drew ?_ | refine blk_alloc ?_ _)); refine blk_put (cs := #[.int .i64 0, .int .i64 0, .int .i64 0, .int .i64 0, .int .i64 0, .int .i64 0, .bool false, .int .i64 0, .int .i64 0, .int .i64 0, .int .i64 0, .bool false, .int .i64 0, .slice none 0 0]) ?_ 0 _ rfl; (with_reducible repeat (first | refine blk_drewN ?_ _ | refine blk_drew ?_ | refine blk_alloc ?_ _)); exact BK223.out⟩
             have n4_ : Aside0 (Below w.heap.size w ((((((((((((((w91.setCell ⟨gb223, 0, none⟩ (.int .i64 ((rd_T46 l0_13 x45_2).f0))).setCell ⟨gb223, 1, none⟩ (.int .i64 ((rd_T46 l0_13 x45_2).f1))).setCell ⟨gb223, 2, none⟩ (.int .i64 ((rd_T46 l0_13 x45_2).f2))).setCell ⟨gb223, 3, none⟩ (.int .i64 ((rd_T46 l0_13 x45_2).f3.f0))).setCell ⟨gb223, 4, none⟩ (.int .i64 ((rd_T46 l0_13 x45_2).f3.f1))).setCell ⟨gb223, 5, none⟩ (.int .i64 ((rd_T46 l0_13 x45_2).f3.f2))).setCell ⟨gb223, 6, none⟩ (.bool ((rd_T46 l0_13 x45_2).f3.f3.f0))).setCell ⟨gb223, 7, none⟩ (.int .i64 ((rd_T46 l0_13 x45_2).f3.f3.f1))).setCell ⟨gb223, 8, none⟩ (.int .i64 ((rd_T46 l0_13 x45_2).f4.f0))).setCell ⟨gb223, 9, none⟩ (.int .i64 ((rd_T46 l0_13 x45_2).f4.f1))).setCell ⟨gb223, 10, none⟩ (.int .i64 ((rd_T46 l0_13 x45_2).f4.f2))).setCell ⟨gb223, 11, none⟩ (.bool ((rd_T46 l0_13 x45_2).f4.f3.f0))).setCell ⟨gb223, 12, none⟩ (.int .i64 ((rd_T46 l0_13 x45_2).f4.f3.f1))).setCell ⟨gb223, 13, none⟩ (.slice A222_13 ((rd_T46 l0_13 x45_2).f5).length c222_13))) := ⟨bl4_ HB.out GE195.out GE196.out GE210.out GE223.out⟩; (try clear BK195); (try clear BK196); (try clear BK210); (try clear BK223); (try clear HB); generalize ((((((((((((((w91.setCell ⟨gb223, 0, none⟩ (.int .i64 ((rd_T46 l0_13 x45_2).f0))).setCell ⟨gb223, 1, none⟩ (.int .i64 ((rd_T46 l0_13 x45_2).f1))).setCell ⟨gb223, 2, none⟩ (.int .i64 ((rd_T46 l0_13 x45_2).f2))).setCell ⟨gb223, 3, none⟩ (.int .i64 ((rd_T46 l0_13 x45_2).f3.f0))).setCell ⟨gb223, 4, none⟩ (.int .i64 ((rd_T46 l0_13 x45_2).f3.f1))).setCell ⟨gb223, 5, none⟩ (.int .i64 ((rd_T46 l0_13 x45_2).f3.f2))).setCell ⟨gb223, 6, none⟩ (.bool ((rd_T46 l0_13 x45_2).f3.f3.f0))).setCell ⟨gb223, 7, none⟩ (.int .i64 ((rd_T46 l0_13 x45_2).f3.f3.f1))).setCell ⟨gb223, 8, none⟩ (.int .i64 ((rd_T46 l0_13 x45_2).f4.f0))).setCell ⟨gb223, 9, none⟩ (.int .i64 ((rd_T46 l0_13 x45_2).f4.f1))).setCell ⟨gb223, 10, none⟩ (.int .i64 ((rd_T46 l0_13 x45_2).f4.f2))).setCell ⟨gb223, 11, none⟩ (.bool ((rd_T46 l0_13 x45_2).f4.f3.f0))).setCell ⟨gb223, 12, none⟩ (.int .i64 ((rd_T46 l0_13 x45_2).f4.f3.f1))).setCell ⟨gb223, 13, none⟩ (.slice A222_13 ((rd_T46 l0_13 x45_2).f5).length c222_13)) = w96 at n0_ n1_ n2_ n3_ n4_ ⊢
             have BK195 := n0_; have BK196 := n1_; have BK210 := n2_; have BK223 := n3_; have HB := n4_; clear n0_ n1_ n2_ n3_ n4_; replace BK195 := Aside0.mk (blk_drew BK195.out); replace BK196 := Aside0.mk (blk_drew BK196.out); replace BK210 := Aside0.mk (blk_drew BK210.out); replace BK223 := Aside0.mk (blk_drew BK223.out); replace HB := Aside0.mk (below_drew1 HB.out); refine start_ (n := 7) (S := fun w' => w'.cell? ⟨gb210, 0, none⟩ = some (.bool x211000_2) ∧ w'.cell? ⟨gb210, 1, none⟩ = some (.bool x211001_2) ∧ w'.cell? ⟨gb210, 2, none⟩ = some (.bool x211002_2) ∧ w'.cell? ⟨gb223, 0, none⟩ = some (.int .i64 ((rd_T46 l0_13 x45_2).f0)) ∧ w'.cell? ⟨gb223, 1, none⟩ = some (.int .i64 ((rd_T46 l0_13 x45_2).f1)) ∧ w'.cell? ⟨gb223, 2, none⟩ = some (.int .i64 ((rd_T46 l0_13 x45_2).f2)) ∧ w'.cell? ⟨gb223, 3, none⟩ = some (.int .i64 ((rd_T46 l0_13 x45_2).f3.f0)) ∧ w'.cell? ⟨gb223, 4, none⟩ = some (.int .i64 ((rd_T46 l0_13 x45_2).f3.f1)) ∧ w'.cell? ⟨gb223, 5, none⟩ = some (.int .i64 ((rd_T46 l0_13 x45_2).f3.f2)) ∧ w'.cell? ⟨gb223, 6, none⟩ = some (.bool ((rd_T46 l0_13 x45_2).f3.f3.f0)) ∧ w'.cell? ⟨gb223, 7, none⟩ = some (.int .i64 ((rd_T46 l0_13 x45_2).f3.f3.f1)) ∧ w'.cell? ⟨gb223, 8, none⟩ = some (.int .i64 ((rd_T46 l0_13 x45_2).f4.f0)) ∧ w'.cell? ⟨gb223, 9, none⟩ = some (.int .i64 ((rd_T46 l0_13 x45_2).f4.f1)) ∧ w'.cell? ⟨gb223, 10, none⟩ = some (.int .i64 ((rd_T46 l0_13 x45_2).f4.f2)) ∧ w'.cell? ⟨gb223, 11, none⟩ = some (.bool ((rd_T46 l0_13 x45_2).f4.f3.f0)) ∧ w'.cell? ⟨gb223, 12, none⟩ = some (.int .i64 ((rd_T46 l0_13 x45_2).f4.f3.f1)) ∧ w'.cell? ⟨gb223, 13, none⟩ = some (.slice A222_13 ((rd_T46 l0_13 x45_2).f5).length c222_13)) (ds := [6]) #[false, false, false, false, false, false, false] (by kernel_rfl) rfl rfl (bc2_ BK210.out BK223.out) (fun hHeld => ?_); generalize w96.drew = w97 at BK195 BK196 BK210 BK223 HB hHeld ⊢; refine pure_ (i := 2) (N := some 51) (v := ?_) (a' := ?_) #[false, false, true, false, false, false, false] rfl rfl (by kernel_rfl) (fun _ _ _ h => h) (Or.inl ⟨by rfl, ?_⟩) ?_ ?_
             rotate_left
             ·intro w'
              go_simp
              with_reducible rfl
             rotate_left
             ·simp only [Act.put, List.setIfInBounds_toArray, List.set_cons_zero, List.set_cons_succ, i64_w, i32_w]
              rfl
             refine pure_ (i := 4) (N := some 53) (v := ?_) (a' := ?_) #[false, false, true, false, true, false, false] rfl rfl (by kernel_rfl) (fun _ _ _ h => h) (Or.inl ⟨by rfl, ?_⟩) ?_ ?_; rotate_left
             ·intro w'
              go_simp
              with_reducible rfl
             rotate_left
             ·simp only [Act.put, List.setIfInBounds_toArray, List.set_cons_zero, List.set_cons_succ, i64_w, i32_w]
              rfl
             refine take_ (i := 0) (N := some 49) (v := ?_) (a' := ?_) #[true, false, true, false, true, false, false] rfl rfl (by kernel_rfl) (fun _ _ _ h => h) (Or.inl ⟨by rfl, ?_⟩) hHeld ?_ ?_; rotate_left
             ·rintro w' ⟨s0, s1, s2, s3, s4, s5, s6, s7, s8, s9, s10, s11, s12, s13, s14, s15, s16⟩
              go_simp
              with_reducible rfl
             rotate_left
             ·simp only [Act.put, List.setIfInBounds_toArray, List.set_cons_zero, List.set_cons_succ, i64_w, i32_w]
              rfl
             refine take_ (i := 1) (N := some 50) (v := ?_) (a' := ?_) #[true, true, true, false, true, false, false] rfl rfl (by kernel_rfl) (fun _ _ _ h => h) (Or.inl ⟨by rfl, ?_⟩) hHeld ?_ ?_; rotate_left
             ·rintro w' ⟨s0, s1, s2, s3, s4, s5, s6, s7, s8, s9, s10, s11, s12, s13, s14, s15, s16⟩
              go_simp
              with_reducible rfl
             rotate_left
             ·simp only [Act.put, List.setIfInBounds_toArray, List.set_cons_zero, List.set_cons_succ, i64_w, i32_w]
              rfl
             refine one_ (i := 3) (N := some 52) #[true, true, true, true, true, false, false] rfl rfl (by kernel_rfl) (by decide) (fun K hK => ?_); refine goes_ Try.func26 (by kernel_rfl) rfl #[.agg #[.int .i64 ((rd_T46 l0_13 x45_2).f0), .int .i64 ((rd_T46 l0_13 x45_2).f1), .int .i64 ((rd_T46 l0_13 x45_2).f2), .int .i64 ((rd_T46 l0_13 x45_2).f3.f0), .int .i64 ((rd_T46 l0_13 x45_2).f3.f1), .int .i64 ((rd_T46 l0_13 x45_2).f3.f2), .bool ((rd_T46 l0_13 x45_2).f3.f3.f0), .int .i64 ((rd_T46 l0_13 x45_2).f3.f3.f1), .int .i64 ((rd_T46 l0_13 x45_2).f4.f0), .int .i64 ((rd_T46 l0_13 x45_2).f4.f1), .int .i64 ((rd_T46 l0_13 x45_2).f4.f2), .bool ((rd_T46 l0_13 x45_2).f4.f3.f0), .int .i64 ((rd_T46 l0_13 x45_2).f4.f3.f1), .slice A222_13 ((rd_T46 l0_13 x45_2).f5).length c222_13], .int .u64 a1] (by rfl) rfl rfl (by (try simp only [List.map_toArray, List.map_cons, List.map_nil]); first | done | rfl | (simp only [List.length_drop, List.length_take]; rfl)) ?_; with_reducible refine (ih k2 (by have := HJ36.out; have := HK2.out; omega) ((rd_T46 l0_13 x45_2).f0) ((rd_T46 l0_13 x45_2).f1) ((rd_T46 l0_13 x45_2).f2) ((rd_T46 l0_13 x45_2).f3.f0) ((rd_T46 l0_13 x45_2).f3.f1) ((rd_T46 l0_13 x45_2).f3.f2) ((rd_T46 l0_13 x45_2).f3.f3.f0) ((rd_T46 l0_13 x45_2).f3.f3.f1) ((rd_T46 l0_13 x45_2).f4.f0) ((rd_T46 l0_13 x45_2).f4.f1) ((rd_T46 l0_13 x45_2).f4.f2) ((rd_T46 l0_13 x45_2).f4.f3.f0) ((rd_T46 l0_13 x45_2).f4.f3.f1) _ _ ((rd_T46 l0_13 x45_2).f5) a1 t224 t225 t226 _ ?side1 ?side2 A89.out).mono ?_
             (case side1 => exact cd_ (Kd.C_below HR222_13.out HB.out))
             (case side2 => exact HC222_13.out)
             rintro e w98 ⟨rfl, hb⟩; refine ⟨_, rfl, ?_⟩; replace BK195 := bb_ BK195 hb; replace BK196 := bb_ BK196 hb; replace BK210 := bb_ BK210 hb; replace BK223 := bb_ BK223 hb; replace HB := bs4_ HB GE195 GE196 GE210 GE223 hb; (try clear hb); (try clear hb2); (try clear hk); (try clear hi); refine hK.out _ _ (bc2_ BK210.out BK223.out) (fun hHeld => ?_); clear hK K; refine norm_ (a' := ?_) ?_ ?_; rotate_left
             ·show Act.put _ (some 52) _ = _
              simp only [Act.put, List.setIfInBounds_toArray, List.set_cons_zero, List.set_cons_succ, i64_w, i32_w]; rfl
             refine one_ (i := 5) (N := some 54) #[true, true, true, true, true, true, false] rfl rfl (by kernel_rfl) (by decide) (fun K hK => ?_); refine goes_ Try.func62 (by kernel_rfl) rfl #[.agg #[.bool x211000_2, .bool x211001_2, .bool x211002_2], .agg #[.bool t224, .bool t225, .bool t226], .func (.func 60) #[] #[]] (by rfl) rfl rfl (by (try simp only [List.map_toArray, List.map_cons, List.map_nil]); first | done | rfl | (simp only [List.length_drop, List.length_take]; rfl)) ?_; with_reducible refine (reject_both_at_logic_And.calls k2 x211000_2 x211001_2 x211002_2 t224 t225 t226  t227 t228 t229 _ A90.out).mono ?_
             rintro e w99 ⟨rfl, hb⟩; refine ⟨_, rfl, ?_⟩; replace BK195 := bb_ BK195 hb; replace BK196 := bb_ BK196 hb; replace BK210 := bb_ BK210 hb; replace BK223 := bb_ BK223 hb; replace HB := bs4_ HB GE195 GE196 GE210 GE223 hb; (try clear hb); (try clear hb2); (try clear hk); (try clear hi); refine hK.out _ _ (bc2_ BK210.out BK223.out) (fun hHeld => ?_); clear hK K; refine norm_ (a' := ?_) ?_ ?_; rotate_left
             ·show Act.put _ (some 54) _ = _
              simp only [Act.put, List.setIfInBounds_toArray, List.set_cons_zero, List.set_cons_succ, i64_w, i32_w]; rfl
             refine last_ (i := 6) (N := none) #[true, true, true, true, true, true, true] rfl rfl (by kernel_rfl) (by decide) (fun K hK => ?_); have hs100 : w99.cell? ⟨gb210, 0, none⟩ = some (.bool x211000_2) := (blk_cell BK210.out 0).trans rfl; have hfs100 := blk_frozen BK210.out 0; have hns100_0 := NB195_210.out; have hns100_1 := NB196_210.out; have hns100_3 := NB223_210.out; have hms100_0 := NB210_195.out; have hms100_1 := NB210_196.out; have hms100_3 := NB210_223.out; have hs101 : w99.cell? ⟨gb210, 1, none⟩ = some (.bool x211001_2) := (blk_cell BK210.out 1).trans rfl; have hfs101 := blk_frozen BK210.out 1; have hns101_0 := NB195_210.out; have hns101_1 := NB196_210.out; have hns101_3 := NB223_210.out; have hms101_0 := NB210_195.out; have hms101_1 := NB210_196.out; have hms101_3 := NB210_223.out; have hs102 : w99.cell? ⟨gb210, 2, none⟩ = some (.bool x211002_2) := (blk_cell BK210.out 2).trans rfl; have hfs102 := blk_frozen BK210.out 2; have hns102_0 := NB195_210.out; have hns102_1 := NB196_210.out; have hns102_3 := NB223_210.out; have hms102_0 := NB210_195.out; have hms102_1 := NB210_196.out; have hms102_3 := NB210_223.out; refine skip_ (w1 := ?_) (by rfl) rfl ?_ ?_; rotate_left
             ·go_simp
              rfl
             refine hK.out _ _ ?_; clear hK K; refine done_ (by kernel_rfl) ?_; try go_wp2
             go_roundg k2
             case measure => have := HJ36.out; have := HK2.out; omega
             case rel => exact ⟨(wrap64 (x45_2 + 1)), (t227), (t228), (t229), (by first | rfl | (simp; done) | (simp [*]; done) | (simp; decide)), H', ⟨by have := HJ36.out; have := HK2.out; omega⟩, ⟨bf1_ BK195.out NB195_210.out⟩, ⟨bf1_ BK196.out NB196_210.out⟩, ⟨by (with_reducible repeat (first | refine blk_drewN ?_ _ | refine blk_drew ?_ | refine blk_alloc ?_ _)); refine blk_put (cs := #[.bool t227, .bool t228, .bool x211002_2]) ?_ 2 _ rfl; (with_reducible repeat (first | refine blk_drewN ?_ _ | refine blk_drew ?_ | refine blk_alloc ?_ _)); refine blk_put (cs := #[.bool t227, .bool x211001_2, .bool x211002_2]) ?_ 1 _ rfl; (with_reducible repeat (first | refine blk_drewN ?_ _ | refine blk_drew ?_ | refine blk_alloc ?_ _)); refine blk_put (cs := #[.bool x211000_2, .bool x211001_2, .bool x211002_2]) ?_ 0 _ rfl; (with_reducible repeat (first | refine blk_drewN ?_ _ | refine blk_drew ?_ | refine blk_alloc ?_ _)); exact BK210.out⟩, ⟨bl4_ HB.out GE195.out GE196.out GE210.out GE223.out⟩⟩
            ·rw [if_neg c88] at H
             exact absurd H (by simp)
           ·rw [if_neg c87] at H
            exact absurd H (by simp)
          ·rw [if_neg c86] at H
           have c86b0 : decide (x45_2 < (l0_13.length : Int)) = false := decide_eq_false c86; clear c86; simp only [Option.some.injEq, Prod.mk.injEq] at H; obtain ⟨rfl, rfl, rfl⟩ := H; have hnb103 := NB210_195.out; have hnc103 := NB195_210.out; have hnb104 := NB210_196.out; have hnc104 := NB196_210.out; have hcz105 := blk_cell BK210.out; have hfz105 := blk_frozen BK210.out; have hnb106 := NB196_195.out; have hnc106 := NB195_196.out; have hcz107 := blk_cell BK196.out; have hfz107 := blk_frozen BK196.out; go_wp2; refine bodyPost_ret (results_cell_row rfl _ _ gb196 39 #[.bool x211000_2, .bool x211001_2, .bool x211002_2] (0, 0) _ rfl (by (with_reducible repeat (first | refine blk_drewN ?_ _ | refine blk_drew ?_ | refine blk_alloc ?_ _)); refine blk_put (cs := #[.bool x211000_2, .bool x211001_2, .bool false]) ?_ 2 _ rfl; (with_reducible repeat (first | refine blk_drewN ?_ _ | refine blk_drew ?_ | refine blk_alloc ?_ _)); refine blk_put (cs := #[.bool x211000_2, .bool false, .bool false]) ?_ 1 _ rfl; (with_reducible repeat (first | refine blk_drewN ?_ _ | refine blk_drew ?_ | refine blk_alloc ?_ _)); refine blk_put (cs := #[.bool false, .bool false, .bool false]) ?_ 0 _ rfl; (with_reducible repeat (first | refine blk_drewN ?_ _ | refine blk_drew ?_ | refine blk_alloc ?_ _)); exact BK196.out) Try.underlying39 rfl (by kernel_rfl)) rfl ?_; exact ⟨rr_, bl3_ HB.out GE195.out GE196.out GE210.out⟩
      ·replace c43 := Bool.eq_false_iff.mpr c43
       subst c43; have H1 : (if a0_0 = 6 then (if (l0_13.length : Int) > 0 then (if 0 < (l0_13.length : Int) then ((reject_May.f kj36 ((rd_T46 l0_13 0).f0) ((rd_T46 l0_13 0).f1) ((rd_T46 l0_13 0).f2) ((rd_T46 l0_13 0).f3.f0) ((rd_T46 l0_13 0).f3.f1) ((rd_T46 l0_13 0).f3.f2) ((rd_T46 l0_13 0).f3.f3.f0) ((rd_T46 l0_13 0).f3.f3.f1) ((rd_T46 l0_13 0).f4.f0) ((rd_T46 l0_13 0).f4.f1) ((rd_T46 l0_13 0).f4.f2) ((rd_T46 l0_13 0).f4.f3.f0) ((rd_T46 l0_13 0).f4.f3.f1) ((rd_T46 l0_13 0).f5) a1).bind fun bt231 => (some (bt231.2.2, bt231.2.1, bt231.1))) else (none)) else ((reject_only.f kj36 1).bind fun bt235 => (some (bt235.1, bt235.2.1, bt235.2.2)))) else ((reject_only.f kj36 1).bind fun bt238 => (some (bt238.1, bt238.2.1, bt238.2.2)))) = some (r1, r2, r3) := by rw [if_neg (show ¬ (false = true) by decide)] at H; exact H
       clear H; have H := H1; clear H1; by_cases c108 : a0_0 = 6
       ·rw [if_pos c108] at H
        have c108b0 : (a0_0 == 6) = true := beq_iff_eq.mpr c108; have c108b1 : (a0_0 != 6) = false := bne_eq_false_iff_eq.mpr c108; clear c108; by_cases c109 : (l0_13.length : Int) > 0
        ·rw [if_pos c109] at H
         have c109b0 : decide (0 < (l0_13.length : Int)) = true := decide_eq_true c109; have c109b1 : decide (0 < l0_13.length) = true := decide_eq_true (by omega); clear c109; by_cases c110 : 0 < (l0_13.length : Int)
         ·rw [if_pos c110] at H
          have c110b0 : decide (0 < (l0_13.length : Int)) = true := decide_eq_true c110; have c110b1 : decide (0 < l0_13.length) = true := decide_eq_true (by omega); clear c110; replace H := Option.bind_eq_some_iff.mp H; obtain ⟨⟨t231, t232, t233⟩, A1110, H⟩ := H; replace H : (some (t233, t232, t231)) = some (r1, r2, r3) := H; have A111 := Aside0.mk A1110; clear A1110; simp only [Option.some.injEq, Prod.mk.injEq] at H; obtain ⟨rfl, rfl, rfl⟩ := H; have hnb112 := NB195_196.out; have hnc112 := NB196_195.out; have hcz113 := blk_cell BK195.out; have hfz113 := blk_frozen BK195.out; have p230 : 0 ≤ (0 : Int) := (by omega); have q230 : 0 < (l0_13.length : Int) := of_decide_eq_true (by first | (with_reducible assumption) | assumption); obtain ⟨ad230, A230_13, c230_13, e230, hx230_0, hx230_1, hx230_2, hx230_3, hx230_4, hx230_5, hx230_6, hx230_7, hx230_8, hx230_9, hx230_10, hx230_11, hx230_12, hx230_13, hl230_13, hi230_13⟩ := at_T46 HR0_13.out 0 p230 q230; cases e230; have qi230 : (0 < l0_13.length) = True := eq_true (by omega); (try rw [show ((0 : Int)).toNat = 0 from rfl] at hx230_0); (try rw [show 0 * 14 = 0 from rfl] at hx230_0); (try rw [Addr.add_zero'] at hx230_0); (try rw [show ((0 : Int)).toNat = 0 from rfl] at hx230_1); (try rw [show 0 * 14 = 0 from rfl] at hx230_1); (try rw [Addr.add_zero'] at hx230_1); (try rw [show ((0 : Int)).toNat = 0 from rfl] at hx230_2); (try rw [show 0 * 14 = 0 from rfl] at hx230_2); (try rw [Addr.add_zero'] at hx230_2); (try rw [show ((0 : Int)).toNat = 0 from rfl] at hx230_3); (try rw [show 0 * 14 = 0 from rfl] at hx230_3); (try rw [Addr.add_zero'] at hx230_3); (try rw [show ((0 : Int)).toNat = 0 from rfl] at hx230_4); (try rw [show 0 * 14 = 0 from rfl] at hx230_4); (try rw [Addr.add_zero'] at hx230_4); (try rw [show ((0 : Int)).toNat = 0 from rfl] at hx230_5); (try rw [show 0 * 14 = 0 from rfl] at hx230_5); (try rw [Addr.add_zero'] at hx230_5); (try rw [show ((0 : Int)).toNat = 0 from rfl] at hx230_6); (try rw [show 0 * 14 = 0 from rfl] at hx230_6)
          (try rw [Addr.add_zero'] at hx230_6); (try rw [show ((0 : Int)).toNat = 0 from rfl] at hx230_7); (try rw [show 0 * 14 = 0 from rfl] at hx230_7); (try rw [Addr.add_zero'] at hx230_7); (try rw [show ((0 : Int)).toNat = 0 from rfl] at hx230_8); (try rw [show 0 * 14 = 0 from rfl] at hx230_8); (try rw [Addr.add_zero'] at hx230_8); (try rw [show ((0 : Int)).toNat = 0 from rfl] at hx230_9); (try rw [show 0 * 14 = 0 from rfl] at hx230_9); (try rw [Addr.add_zero'] at hx230_9); (try rw [show ((0 : Int)).toNat = 0 from rfl] at hx230_10); (try rw [show 0 * 14 = 0 from rfl] at hx230_10); (try rw [Addr.add_zero'] at hx230_10); (try rw [show ((0 : Int)).toNat = 0 from rfl] at hx230_11); (try rw [show 0 * 14 = 0 from rfl] at hx230_11); (try rw [Addr.add_zero'] at hx230_11); (try rw [show ((0 : Int)).toNat = 0 from rfl] at hx230_12); (try rw [show 0 * 14 = 0 from rfl] at hx230_12); (try rw [Addr.add_zero'] at hx230_12); (try rw [show ((0 : Int)).toNat = 0 from rfl] at hx230_13); (try rw [show 0 * 14 = 0 from rfl] at hx230_13); (try rw [Addr.add_zero'] at hx230_13); replace hx230_0 := hc_ HB.out hx230_0; replace hx230_1 := hc_ HB.out hx230_1; replace hx230_2 := hc_ HB.out hx230_2; replace hx230_3 := hc_ HB.out hx230_3; replace hx230_4 := hc_ HB.out hx230_4; replace hx230_5 := hc_ HB.out hx230_5; replace hx230_6 := hc_ HB.out hx230_6; replace hx230_7 := hc_ HB.out hx230_7; replace hx230_8 := hc_ HB.out hx230_8; replace hx230_9 := hc_ HB.out hx230_9; replace hx230_10 := hc_ HB.out hx230_10; replace hx230_11 := hc_ HB.out hx230_11; replace hx230_12 := hc_ HB.out hx230_12; replace hx230_13 := hc_ HB.out hx230_13; have HR230_13 := Aside0.mk hi230_13; have HC230_13 := Aside0.mk hl230_13; clear hi230_13 hl230_13; replace p230 := eq_true p230; replace q230 := eq_true q230; go_wp2_with (first | ((with_reducible refine gate_callee (f := 26) rfl ?_); refine goesL_ (some 68) rfl rfl Try.func26 (by kernel_rfl) rfl #[.agg #[.int .i64 ((rd_T46 l0_13 0).f0), .int .i64 ((rd_T46 l0_13 0).f1), .int .i64 ((rd_T46 l0_13 0).f2), .int .i64 ((rd_T46 l0_13 0).f3.f0), .int .i64 ((rd_T46 l0_13 0).f3.f1), .int .i64 ((rd_T46 l0_13 0).f3.f2), .bool ((rd_T46 l0_13 0).f3.f3.f0), .int .i64 ((rd_T46 l0_13 0).f3.f3.f1), .int .i64 ((rd_T46 l0_13 0).f4.f0), .int .i64 ((rd_T46 l0_13 0).f4.f1), .int .i64 ((rd_T46 l0_13 0).f4.f2), .bool ((rd_T46 l0_13 0).f4.f3.f0), .int .i64 ((rd_T46 l0_13 0).f4.f3.f1), .slice A230_13 ((rd_T46 l0_13 0).f5).length c230_13], .int .u64 a1] rfl (by (try simp only [List.map_toArray, List.map_cons, List.map_nil]); first | done | rfl | (simp only [List.length_drop, List.length_take]; rfl)) ?_; (with_reducible refine (ih kj36 (by have := HJ36.out; omega) ((rd_T46 l0_13 0).f0) ((rd_T46 l0_13 0).f1) ((rd_T46 l0_13 0).f2) ((rd_T46 l0_13 0).f3.f0) ((rd_T46 l0_13 0).f3.f1) ((rd_T46 l0_13 0).f3.f2) ((rd_T46 l0_13 0).f3.f3.f0) ((rd_T46 l0_13 0).f3.f3.f1) ((rd_T46 l0_13 0).f4.f0) ((rd_T46 l0_13 0).f4.f1) ((rd_T46 l0_13 0).f4.f2) ((rd_T46 l0_13 0).f4.f3.f0) ((rd_T46 l0_13 0).f4.f3.f1) _ _ ((rd_T46 l0_13 0).f5) a1 t231 t232 t233 _ ?side1 ?side2 A111.out).mono ?_); (case side1 => exact cd_ (Kd.C_below HR230_13.out HB.out)); (case side2 => exact HC230_13.out); rintro e w114 ⟨rfl, hb⟩; refine ⟨_, rfl, ?_⟩; replace BK195 := bb_ BK195 hb; replace BK196 := bb_ BK196 hb; replace HB := bs2_ HB GE195 GE196 hb; (try clear hb)) | ((with_reducible refine gate_dst (N := 9) rfl ?_); refine box_event ?hg (N := 9) ?hd (cs := #[.bool false, .bool false, .bool false]) (t := 39) ?hr ?_; (case hd => rfl); (case hg => rfl); (case hr => first | (go_simp; done) | (go_simp; rfl)); intro gb234 hg w115 hbox hb; have BK234 := Aside0.mk (hbox); have GW234 := Aside0.mk ((by rw [hg]; exact (below_size (bl2_ HB.out GE195.out GE196.out)) : w.heap.size ≤ gb234)); replace HB := bs2_ HB GE195 GE196 hb; have GE234 := GW234; have NB195_234 := Aside0.mk ((by rw [hg]; exact Nat.ne_of_lt (blk_lt (bk_ BK195.out)) : gb195 ≠ gb234)); have NB234_195 := Aside0.mk ((by rw [hg]; exact Nat.ne_of_gt (blk_lt (bk_ BK195.out)) : gb234 ≠ gb195)); replace BK195 := bb_ BK195 hb; have NB196_234 := Aside0.mk ((by rw [hg]; exact Nat.ne_of_lt (blk_lt (bk_ BK196.out)) : gb196 ≠ gb234)); have NB234_196 := Aside0.mk ((by rw [hg]; exact Nat.ne_of_gt (blk_lt (bk_ BK196.out)) : gb234 ≠ gb196)); replace BK196 := bb_ BK196 hb; clear hb hbox hg; have hnb116 := NB234_195.out; have hnc116 := NB195_234.out; have hnb117 := NB234_196.out; have hnc117 := NB196_234.out; have hcz118 := blk_cell BK234.out; have hfz118 := blk_frozen BK234.out; have hcz119 := blk_cell BK196.out; have hfz119_0 := blk_frozen BK196.out 0; have hfz119_1 := blk_frozen BK196.out 1; have hfz119_2 := blk_frozen BK196.out 2))
          refine bodyPost_ret (results_cell_row rfl _ _ gb196 39 #[.bool t233, .bool t232, .bool t231] (0, 0) _ rfl (by (with_reducible repeat (first | refine blk_drewN ?_ _ | refine blk_drew ?_ | refine blk_alloc ?_ _)); refine blk_put (cs := #[.bool t233, .bool t232, .bool false]) ?_ 2 _ rfl; (with_reducible repeat (first | refine blk_drewN ?_ _ | refine blk_drew ?_ | refine blk_alloc ?_ _)); refine blk_put (cs := #[.bool t233, .bool false, .bool false]) ?_ 1 _ rfl; (with_reducible repeat (first | refine blk_drewN ?_ _ | refine blk_drew ?_ | refine blk_alloc ?_ _)); refine blk_put (cs := #[.bool false, .bool false, .bool false]) ?_ 0 _ rfl; (iterate 3 ((with_reducible repeat (first | refine blk_drewN ?_ _ | refine blk_drew ?_ | refine blk_alloc ?_ _)); refine blk_far ?_ NB196_234.out _)); (with_reducible repeat (first | refine blk_drewN ?_ _ | refine blk_drew ?_ | refine blk_alloc ?_ _)); exact BK196.out) Try.underlying39 rfl (by kernel_rfl)) rfl ?_; exact ⟨rr_, bl3_ HB.out GE195.out GE196.out GE234.out⟩
         ·rw [if_neg c110] at H
          exact absurd H (by simp)
        ·rw [if_neg c109] at H
         have c109b0 : decide (0 < (l0_13.length : Int)) = false := decide_eq_false c109; have c109b1 : decide (0 < l0_13.length) = false := decide_eq_false (by omega); clear c109; replace H := Option.bind_eq_some_iff.mp H; obtain ⟨⟨t235, t236, t237⟩, A1200, H⟩ := H; replace H : (some (t235, t236, t237)) = some (r1, r2, r3) := H; have A120 := Aside0.mk A1200; clear A1200; simp only [Option.some.injEq, Prod.mk.injEq] at H; obtain ⟨rfl, rfl, rfl⟩ := H; have hnb121 := NB195_196.out; have hnc121 := NB196_195.out; have hcz122 := blk_cell BK195.out; have hfz122 := blk_frozen BK195.out; go_wp2_with (first | ((with_reducible refine gate_callee (f := 57) rfl ?_); refine goesL_ (some 76) rfl rfl Try.func57 (by kernel_rfl) rfl #[.int .i64 1] rfl (by (try simp only [List.map_toArray, List.map_cons, List.map_nil]); first | done | rfl | (simp only [List.length_drop, List.length_take]; rfl)) ?_; (with_reducible refine (reject_only.calls kj36 1 t235 t236 t237 _ A120.out).mono ?_); rintro e w123 ⟨rfl, hb⟩; refine ⟨_, rfl, ?_⟩; replace BK195 := bb_ BK195 hb; replace BK196 := bb_ BK196 hb; replace HB := bs2_ HB GE195 GE196 hb; (try clear hb); have hcz124 := blk_cell BK196.out; have hfz124_0 := blk_frozen BK196.out 0; have hfz124_1 := blk_frozen BK196.out 1; have hfz124_2 := blk_frozen BK196.out 2)); refine bodyPost_ret (results_cell_row rfl _ _ gb196 39 #[.bool t235, .bool t236, .bool t237] (0, 0) _ rfl (by (with_reducible repeat (first | refine blk_drewN ?_ _ | refine blk_drew ?_ | refine blk_alloc ?_ _)); refine blk_put (cs := #[.bool t235, .bool t236, .bool false]) ?_ 2 _ rfl; (with_reducible repeat (first | refine blk_drewN ?_ _ | refine blk_drew ?_ | refine blk_alloc ?_ _)); refine blk_put (cs := #[.bool t235, .bool false, .bool false]) ?_ 1 _ rfl; (with_reducible repeat (first | refine blk_drewN ?_ _ | refine blk_drew ?_ | refine blk_alloc ?_ _)); refine blk_put (cs := #[.bool false, .bool false, .bool false]) ?_ 0 _ rfl; (with_reducible repeat (first | refine blk_drewN ?_ _ | refine blk_drew ?_ | refine blk_alloc ?_ _)); exact BK196.out) Try.underlying39 rfl (by kernel_rfl)) rfl ?_
         exact ⟨rr_, bl2_ HB.out GE195.out GE196.out⟩
       ·rw [if_neg c108] at H
        have c108b0 : (a0_0 == 6) = false := beq_eq_false_iff_ne.mpr c108; have c108b1 : (a0_0 != 6) = true := bne_iff_ne.mpr c108; replace H := Option.bind_eq_some_iff.mp H; obtain ⟨⟨t238, t239, t240⟩, A1250, H⟩ := H; replace H : (some (t238, t239, t240)) = some (r1, r2, r3) := H; have A125 := Aside0.mk A1250; clear A1250; simp only [Option.some.injEq, Prod.mk.injEq] at H; obtain ⟨rfl, rfl, rfl⟩ := H; go_wp2_with (first | ((with_reducible refine gate_callee (f := 57) rfl ?_); refine goesL_ (some 76) rfl rfl Try.func57 (by kernel_rfl) rfl #[.int .i64 1] rfl (by (try simp only [List.map_toArray, List.map_cons, List.map_nil]); first | done | rfl | (simp only [List.length_drop, List.length_take]; rfl)) ?_; (with_reducible refine (reject_only.calls kj36 1 t238 t239 t240 _ A125.out).mono ?_); rintro e w126 ⟨rfl, hb⟩; refine ⟨_, rfl, ?_⟩; replace BK195 := bb_ BK195 hb; replace BK196 := bb_ BK196 hb; replace HB := bs2_ HB GE195 GE196 hb; (try clear hb); have hnb127 := NB196_195.out; have hnc127 := NB195_196.out; have hcz128 := blk_cell BK196.out; have hfz128_0 := blk_frozen BK196.out 0; have hfz128_1 := blk_frozen BK196.out 1; have hfz128_2 := blk_frozen BK196.out 2)); refine bodyPost_ret (results_cell_row rfl _ _ gb196 39 #[.bool t238, .bool t239, .bool t240] (0, 0) _ rfl (by (with_reducible repeat (first | refine blk_drewN ?_ _ | refine blk_drew ?_ | refine blk_alloc ?_ _)); refine blk_put (cs := #[.bool t238, .bool t239, .bool false]) ?_ 2 _ rfl; (with_reducible repeat (first | refine blk_drewN ?_ _ | refine blk_drew ?_ | refine blk_alloc ?_ _)); refine blk_put (cs := #[.bool t238, .bool false, .bool false]) ?_ 1 _ rfl; (with_reducible repeat (first | refine blk_drewN ?_ _ | refine blk_drew ?_ | refine blk_alloc ?_ _)); refine blk_put (cs := #[.bool false, .bool false, .bool false]) ?_ 0 _ rfl; (with_reducible repeat (first | refine blk_drewN ?_ _ | refine blk_drew ?_ | refine blk_alloc ?_ _)); exact BK196.out) Try.underlying39 rfl (by kernel_rfl)) rfl ?_; exact ⟨rr_, bl2_ HB.out GE195.out GE196.out⟩

/-! ### reject_Rejects: function 28 -/
def reject_Rejects.f (k : Nat) (l0 : List (S46)) (a1 : Int) : Option (Bool) := (reject_May.f k 4 0 0 0 0 0 false 0 0 0 0 false 0 l0 a1).bind fun bt241 => (some (!bt241.2.2))
theorem reject_Rejects.mono : ∀ a0 a1 k, LeO (reject_Rejects.f k a0 a1) (reject_Rejects.f (k + 1) a0 a1) := by
 intro a0 a1 k; unfold reject_Rejects.f
 repeat' first
   | (with_reducible exact reject_May.mono _ _ _ _ _ _ _ _ _ _ _ _ _ _ _ _)
   | (with_reducible exact LeO.refl _)
   | (with_reducible exact LeO.none _)
   | (with_reducible refine LeO.ite ?_ ?_)
   | (with_reducible refine LeO.bind ?_ (fun _ => ?_))
   | exact reject_May.mono _ _ _ _ _ _ _ _ _ _ _ _ _ _ _ _
   | exact LeO.none _
   | refine LeO.ite ?_ ?_
   | refine LeO.bind ?_ (fun _ => ?_)
set_option maxHeartbeats 8000000 in
set_option maxRecDepth 100000 in
theorem reject_Rejects.calls (k : Nat) (A0 : Option Addr) (c0 : Nat) (l0 : List (S46)) (a1 : Int) (r : Bool) (w : World) (hr0 : Kd.C k46 w A0 l0.length l0) (hc0 : l0.length ≤ c0) (h : reject_Rejects.f k l0 a1 = some r) :
  Calls Try.prog 28 #[.slice A0 l0.length c0, .int .u64 a1] w fun e w' => e = .returned (.bool r) ∧ Below w.heap.size w w' := by
 have hu46 := Try.underlying46
 have hix39_2 : ∀ (y0 : Bool) (y1 : Bool) (y2 : Bool) (w : World), (Instr.index 39 (.agg #[.bool y0, .bool y1, .bool y2]) (.int .i64 2)).run Try.prog w = .ok (.bool y2) w := by
  intro y0 y1 y2 w; first | rfl | (simp only [Instr.index, hu39, go_sem]; done) | (simp only [Instr.index, hu39, go_sem]; rfl)
 have HR0 := Aside0.mk hr0; have HC0 := Aside0.mk hc0; clear hr0 hc0; have HB := Aside0.mk (Below.refl w.heap.size w); have H : ((reject_May.f k 4 0 0 0 0 0 false 0 0 0 0 false 0 l0 a1).bind fun bt241 => (some (!bt241.2.2))) = some r := h; clear h; replace H := Option.bind_eq_some_iff.mp H; obtain ⟨⟨t241, t242, t243⟩, A30, H⟩ := H; replace H : (some (!t243)) = some r := H; have A3 := Aside0.mk A30; clear A30; obtain rfl := Option.some.inj H; go_enter Try.func28, Try.ntmps28
 go_wp2_with (first | ((with_reducible refine gate_callee (f := 26) rfl ?_); refine goesL_ (some 8) rfl rfl Try.func26 (by kernel_rfl) rfl #[.agg #[.int .i64 4, .int .i64 0, .int .i64 0, .int .i64 0, .int .i64 0, .int .i64 0, .bool false, .int .i64 0, .int .i64 0, .int .i64 0, .int .i64 0, .bool false, .int .i64 0, .slice A0 l0.length c0], .int .u64 a1] rfl (by (try simp only [List.map_toArray, List.map_cons, List.map_nil]); first | done | rfl | (simp only [List.length_drop, List.length_take]; rfl)) ?_; (with_reducible refine (reject_May.calls k 4 0 0 0 0 0 false 0 0 0 0 false 0 _ _ l0 a1 t241 t242 t243 _ ?side1 ?side2 A3.out).mono ?_); (case side1 => exact cd_ HR0.out); (case side2 => exact HC0.out); rintro e w4 ⟨rfl, hb⟩; refine ⟨_, rfl, ?_⟩; replace HB := bs_ HB hb; (try clear hb)))
 go_ret
 exact ⟨rr_, bl_ HB.out⟩

/-! ### watersmeetlaw06_Equal: function 55 -/
def watersmeetlaw06_Equal.f (a0 : Int) (a1 : Int) : Option (Int × Int × Int × Int × Int × Int × Bool × Int × Int × Int × Int × Bool × Int × (List (S46))) := some (2, 0, 1, 1, a0, 0, false, 0, 1, a1, 0, false, 0, ([] : List (S46)))
set_option maxHeartbeats 8000000 in
set_option maxRecDepth 100000 in
theorem watersmeetlaw06_Equal.calls (a0 : Int) (a1 : Int) (r1 : Int) (r2 : Int) (r3 : Int) (r4 : Int) (r5 : Int) (r6 : Int) (r7 : Bool) (r8 : Int) (r9 : Int) (r10 : Int) (r11 : Int) (r12 : Bool) (r13 : Int) (r14 : List (S46)) (w : World) (h : watersmeetlaw06_Equal.f a0 a1 = some (r1, r2, r3, r4, r5, r6, r7, r8, r9, r10, r11, r12, r13, r14)) :
  Calls Try.prog 55 #[.int .i64 a0, .int .i64 a1] w fun e w' => e = .returned (.agg #[.int .i64 r1, .int .i64 r2, .int .i64 r3, .int .i64 r4, .int .i64 r5, .int .i64 r6, .bool r7, .int .i64 r8, .int .i64 r9, .int .i64 r10, .int .i64 r11, .bool r12, .int .i64 r13, .slice none 0 0]) ∧ Below w.heap.size w w' := by
 have hu46 := Try.underlying46; have hu44 := Try.underlying44; have HB := Aside0.mk (Below.refl w.heap.size w); have H : (some (2, 0, 1, 1, a0, 0, false, 0, 1, a1, 0, false, 0, ([] : List (S46)))) = some (r1, r2, r3, r4, r5, r6, r7, r8, r9, r10, r11, r12, r13, r14) := h; clear h; simp only [Option.some.injEq, Prod.mk.injEq] at H; obtain ⟨rfl, rfl, rfl, rfl, rfl, rfl, rfl, rfl, rfl, rfl, rfl, rfl, rfl, rfl⟩ := H; go_enter Try.func55, Try.ntmps55
 go_wp2_with (first | ((with_reducible refine gate_dst (N := 4) rfl ?_); refine box_event ?hg (N := 4) ?hd (cs := #[.int .i64 0, .int .i64 0, .int .i64 0, .int .i64 0, .int .i64 0, .int .i64 0, .bool false, .int .i64 0, .int .i64 0, .int .i64 0, .int .i64 0, .bool false, .int .i64 0, .slice none 0 0]) (t := 46) ?hr ?_; (case hd => rfl); (case hg => rfl); (case hr => first | (go_simp; done) | (go_simp; rfl)); intro gb244 hg w3 hbox hb; have BK244 := Aside0.mk (hbox); have GW244 := Aside0.mk ((by rw [hg]; exact (below_size (bl_ HB.out)) : w.heap.size ≤ gb244)); replace HB := bs_ HB hb; have GE244 := GW244; clear hb hbox hg; have hcz4 := blk_cell BK244.out; have hfz4 := blk_frozen BK244.out; have hfz4_13 := blk_frozen BK244.out 13))
 refine bodyPost_ret (results_cell_row rfl _ _ gb244 46 #[.int .i64 2, .int .i64 0, .int .i64 1, .int .i64 1, .int .i64 a0, .int .i64 0, .bool false, .int .i64 0, .int .i64 1, .int .i64 a1, .int .i64 0, .bool false, .int .i64 0, .slice none 0 0] (0, 0) _ rfl (by (with_reducible repeat (first | refine blk_drewN ?_ _ | refine blk_drew ?_ | refine blk_alloc ?_ _)); refine blk_put (cs := #[.int .i64 2, .int .i64 0, .int .i64 1, .int .i64 1, .int .i64 a0, .int .i64 0, .bool false, .int .i64 0, .int .i64 1, .int .i64 a1, .int .i64 0, .bool false, .int .i64 0, .slice none 0 0]) ?_ 13 _ rfl; (with_reducible repeat (first | refine blk_drewN ?_ _ | refine blk_drew ?_ | refine blk_alloc ?_ _)); refine blk_put (cs := #[.int .i64 2, .int .i64 0, .int .i64 1, .int .i64 1, .int .i64 a0, .int .i64 0, .bool false, .int .i64 0, .int .i64 1, .int .i64 a1, .int .i64 0, .bool false, .int .i64 0, .slice none 0 0]) ?_ 12 _ rfl; (with_reducible repeat (first | refine blk_drewN ?_ _ | refine blk_drew ?_ | refine blk_alloc ?_ _)); refine blk_put (cs := #[.int .i64 2, .int .i64 0, .int .i64 1, .int .i64 1, .int .i64 a0, .int .i64 0, .bool false, .int .i64 0, .int .i64 1, .int .i64 a1, .int .i64 0, .bool false, .int .i64 0, .slice none 0 0]) ?_ 11 _ rfl; (with_reducible repeat (first | refine blk_drewN ?_ _ | refine blk_drew ?_ | refine blk_alloc ?_ _)); refine blk_put (cs := #[.int .i64 2, .int .i64 0, .int .i64 1, .int .i64 1, .int .i64 a0, .int .i64 0, .bool false, .int .i64 0, .int .i64 1, .int .i64 a1, .int .i64 0, .bool false, .int .i64 0, .slice none 0 0]) ?_ 10 _ rfl; (with_reducible repeat (first | refine blk_drewN ?_ _ | refine blk_drew ?_ | refine blk_alloc ?_ _)); refine blk_put (cs := #[.int .i64 2, .int .i64 0, .int .i64 1, .int .i64 1, .int .i64 a0, .int .i64 0, .bool false, .int .i64 0, .int .i64 1, .int .i64 0, .int .i64 0, .bool false, .int .i64 0, .slice none 0 0]) ?_ 9 _ rfl; (with_reducible repeat (first | refine blk_drewN ?_ _ | refine blk_drew ?_ | refine blk_alloc ?_ _)); refine blk_put (cs := #[.int .i64 2, .int .i64 0, .int .i64 1, .int .i64 1, .int .i64 a0, .int .i64 0, .bool false, .int .i64 0, .int .i64 0, .int .i64 0, .int .i64 0, .bool false, .int .i64 0, .slice none 0 0]) ?_ 8 _ rfl; (with_reducible repeat (first | refine blk_drewN ?_ _ | refine blk_drew ?_ | refine blk_alloc ?_ _)); refine blk_put (cs := #[.int .i64 2, .int .i64 0, .int .i64 1, .int .i64 1, .int .i64 a0, .int .i64 0, .bool false, .int .i64 0, .int .i64 0, .int .i64 0, .int .i64 0, .bool false, .int .i64 0, .slice none 0 0]) ?_ 7 _ rfl; (with_reducible repeat (first | refine blk_drewN ?_ _ | refine blk_drew ?_ | refine blk_alloc ?_ _)); refine blk_put (cs := #[.int .i64 2, .int .i64 0, .int .i64 1, .int .i64 1, .int .i64 a0, .int .i64 0, .bool false, .int .i64 0, .int .i64 0, .int .i64 0, .int .i64 0, .bool false, .int .i64 0, .slice none 0 0]) ?_ 6 _ rfl; (with_reducible repeat (first | refine blk_drewN ?_ _ | refine blk_drew ?_ | refine blk_alloc ?_ _)); refine blk_put (cs := #[.int .i64 2, .int .i64 0, .int .i64 1, .int .i64 1, .int .i64 a0, .int .i64 0, .bool false, .int .i64 0, .int .i64 0, .int .i64 0, .int .i64 0, .bool false, .int .i64 0, .slice none 0 0]) ?_ 5 _ rfl; (with_reducible repeat (first | refine blk_drewN ?_ _ | refine blk_drew ?_ | refine blk_alloc ?_ _)); refine blk_put (cs := #[.int .i64 2, .int .i64 0, .int .i64 1, .int .i64 1, .int .i64 0, .int .i64 0, .bool false, .int .i64 0, .int .i64 0, .int .i64 0, .int .i64 0, .bool false, .int .i64 0, .slice none 0 0]) ?_ 4 _ rfl; (with_reducible repeat (first | refine blk_drewN ?_ _ | refine blk_drew ?_ | refine blk_alloc ?_ _)); refine blk_put (cs := #[.int .i64 2, .int .i64 0, .int .i64 1, .int .i64 0, .int .i64 0, .int .i64 0, .bool false, .int .i64 0, .int .i64 0, .int .i64 0, .int .i64 0, .bool false, .int .i64 0, .slice none 0 0]) ?_ 3 _ rfl; (with_reducible repeat (first | refine blk_drewN ?_ _ | refine blk_drew ?_ | refine blk_alloc ?_ _)); refine blk_put (cs := #[.int .i64 2, .int .i64 0, .int .i64 0, .int .i64 0, .int .i64 0, .int .i64 0, .bool false, .int .i64 0, .int .i64 0, .int .i64 0, .int .i64 0, .bool false, .int .i64 0, .slice none 0 0]) ?_ 2 _ rfl; (with_reducible repeat (first | refine blk_drewN ?_ _ | refine blk_drew ?_ | refine blk_alloc ?_ _)); refine blk_put (cs := #[.int .i64 2, .int .i64 0, .int .i64 0, .int .i64 0, .int .i64 0, .int .i64 0, .bool false, .int .i64 0, .int .i64 0, .int .i64 0, .int .i64 0, .bool false, .int .i64 0, .slice none 0 0]) ?_ 1 _ rfl; (with_reducible repeat (first | refine blk_drewN ?_ _ | refine blk_drew ?_ | refine blk_alloc ?_ _)); refine blk_put (cs := #[.int .i64 0, .int .i64 0, .int .i64 0, .int .i64 0, .int .i64 0, .int .i64 0, .bool false, .int .i64 0, .int .i64 0, .int .i64 0, .int .i64 0, .bool false, .int .i64 0, .slice none 0 0]) ?_ 0 _ rfl; (with_reducible repeat (first | refine blk_drewN ?_ _ | refine blk_drew ?_ | refine blk_alloc ?_ _)); exact BK244.out) Try.underlying46 rfl (by kernel_rfl)) rfl ?_
 exact ⟨rr_, bl1_ HB.out GE244.out⟩

/-! ### watersmeetlaw07_isNull: function 56 -/
def watersmeetlaw07_isNull.f (a0 : Int) : Option (Int × Int × Int × Int × Int × Int × Bool × Int × Int × Int × Int × Bool × Int × (List (S46))) := some (3, 0, 0, 1, a0, 0, false, 0, 0, 0, 0, false, 0, ([] : List (S46)))
set_option maxHeartbeats 8000000 in
set_option maxRecDepth 100000 in
theorem watersmeetlaw07_isNull.calls (a0 : Int) (r1 : Int) (r2 : Int) (r3 : Int) (r4 : Int) (r5 : Int) (r6 : Int) (r7 : Bool) (r8 : Int) (r9 : Int) (r10 : Int) (r11 : Int) (r12 : Bool) (r13 : Int) (r14 : List (S46)) (w : World) (h : watersmeetlaw07_isNull.f a0 = some (r1, r2, r3, r4, r5, r6, r7, r8, r9, r10, r11, r12, r13, r14)) :
  Calls Try.prog 56 #[.int .i64 a0] w fun e w' => e = .returned (.agg #[.int .i64 r1, .int .i64 r2, .int .i64 r3, .int .i64 r4, .int .i64 r5, .int .i64 r6, .bool r7, .int .i64 r8, .int .i64 r9, .int .i64 r10, .int .i64 r11, .bool r12, .int .i64 r13, .slice none 0 0]) ∧ Below w.heap.size w w' := by
 have hu46 := Try.underlying46; have hu44 := Try.underlying44; have HB := Aside0.mk (Below.refl w.heap.size w); have H : (some (3, 0, 0, 1, a0, 0, false, 0, 0, 0, 0, false, 0, ([] : List (S46)))) = some (r1, r2, r3, r4, r5, r6, r7, r8, r9, r10, r11, r12, r13, r14) := h; clear h; simp only [Option.some.injEq, Prod.mk.injEq] at H; obtain ⟨rfl, rfl, rfl, rfl, rfl, rfl, rfl, rfl, rfl, rfl, rfl, rfl, rfl, rfl⟩ := H; go_enter Try.func56, Try.ntmps56
 go_wp2_with (first | ((with_reducible refine gate_dst (N := 2) rfl ?_); refine box_event ?hg (N := 2) ?hd (cs := #[.int .i64 0, .int .i64 0, .int .i64 0, .int .i64 0, .int .i64 0, .int .i64 0, .bool false, .int .i64 0, .int .i64 0, .int .i64 0, .int .i64 0, .bool false, .int .i64 0, .slice none 0 0]) (t := 46) ?hr ?_; (case hd => rfl); (case hg => rfl); (case hr => first | (go_simp; done) | (go_simp; rfl)); intro gb245 hg w2 hbox hb; have BK245 := Aside0.mk (hbox); have GW245 := Aside0.mk ((by rw [hg]; exact (below_size (bl_ HB.out)) : w.heap.size ≤ gb245)); replace HB := bs_ HB hb; have GE245 := GW245; clear hb hbox hg; have hcz3 := blk_cell BK245.out; have hfz3 := blk_frozen BK245.out; have hfz3_13 := blk_frozen BK245.out 13))
 refine bodyPost_ret (results_cell_row rfl _ _ gb245 46 #[.int .i64 3, .int .i64 0, .int .i64 0, .int .i64 1, .int .i64 a0, .int .i64 0, .bool false, .int .i64 0, .int .i64 0, .int .i64 0, .int .i64 0, .bool false, .int .i64 0, .slice none 0 0] (0, 0) _ rfl (by (with_reducible repeat (first | refine blk_drewN ?_ _ | refine blk_drew ?_ | refine blk_alloc ?_ _)); refine blk_put (cs := #[.int .i64 3, .int .i64 0, .int .i64 0, .int .i64 1, .int .i64 a0, .int .i64 0, .bool false, .int .i64 0, .int .i64 0, .int .i64 0, .int .i64 0, .bool false, .int .i64 0, .slice none 0 0]) ?_ 13 _ rfl; (with_reducible repeat (first | refine blk_drewN ?_ _ | refine blk_drew ?_ | refine blk_alloc ?_ _)); refine blk_put (cs := #[.int .i64 3, .int .i64 0, .int .i64 0, .int .i64 1, .int .i64 a0, .int .i64 0, .bool false, .int .i64 0, .int .i64 0, .int .i64 0, .int .i64 0, .bool false, .int .i64 0, .slice none 0 0]) ?_ 12 _ rfl; (with_reducible repeat (first | refine blk_drewN ?_ _ | refine blk_drew ?_ | refine blk_alloc ?_ _)); refine blk_put (cs := #[.int .i64 3, .int .i64 0, .int .i64 0, .int .i64 1, .int .i64 a0, .int .i64 0, .bool false, .int .i64 0, .int .i64 0, .int .i64 0, .int .i64 0, .bool false, .int .i64 0, .slice none 0 0]) ?_ 11 _ rfl; (with_reducible repeat (first | refine blk_drewN ?_ _ | refine blk_drew ?_ | refine blk_alloc ?_ _)); refine blk_put (cs := #[.int .i64 3, .int .i64 0, .int .i64 0, .int .i64 1, .int .i64 a0, .int .i64 0, .bool false, .int .i64 0, .int .i64 0, .int .i64 0, .int .i64 0, .bool false, .int .i64 0, .slice none 0 0]) ?_ 10 _ rfl; (with_reducible repeat (first | refine blk_drewN ?_ _ | refine blk_drew ?_ | refine blk_alloc ?_ _)); refine blk_put (cs := #[.int .i64 3, .int .i64 0, .int .i64 0, .int .i64 1, .int .i64 a0, .int .i64 0, .bool false, .int .i64 0, .int .i64 0, .int .i64 0, .int .i64 0, .bool false, .int .i64 0, .slice none 0 0]) ?_ 9 _ rfl; (with_reducible repeat (first | refine blk_drewN ?_ _ | refine blk_drew ?_ | refine blk_alloc ?_ _)); refine blk_put (cs := #[.int .i64 3, .int .i64 0, .int .i64 0, .int .i64 1, .int .i64 a0, .int .i64 0, .bool false, .int .i64 0, .int .i64 0, .int .i64 0, .int .i64 0, .bool false, .int .i64 0, .slice none 0 0]) ?_ 8 _ rfl; (with_reducible repeat (first | refine blk_drewN ?_ _ | refine blk_drew ?_ | refine blk_alloc ?_ _)); refine blk_put (cs := #[.int .i64 3, .int .i64 0, .int .i64 0, .int .i64 1, .int .i64 a0, .int .i64 0, .bool false, .int .i64 0, .int .i64 0, .int .i64 0, .int .i64 0, .bool false, .int .i64 0, .slice none 0 0]) ?_ 7 _ rfl; (with_reducible repeat (first | refine blk_drewN ?_ _ | refine blk_drew ?_ | refine blk_alloc ?_ _)); refine blk_put (cs := #[.int .i64 3, .int .i64 0, .int .i64 0, .int .i64 1, .int .i64 a0, .int .i64 0, .bool false, .int .i64 0, .int .i64 0, .int .i64 0, .int .i64 0, .bool false, .int .i64 0, .slice none 0 0]) ?_ 6 _ rfl; (with_reducible repeat (first | refine blk_drewN ?_ _ | refine blk_drew ?_ | refine blk_alloc ?_ _)); refine blk_put (cs := #[.int .i64 3, .int .i64 0, .int .i64 0, .int .i64 1, .int .i64 a0, .int .i64 0, .bool false, .int .i64 0, .int .i64 0, .int .i64 0, .int .i64 0, .bool false, .int .i64 0, .slice none 0 0]) ?_ 5 _ rfl; (with_reducible repeat (first | refine blk_drewN ?_ _ | refine blk_drew ?_ | refine blk_alloc ?_ _)); refine blk_put (cs := #[.int .i64 3, .int .i64 0, .int .i64 0, .int .i64 1, .int .i64 0, .int .i64 0, .bool false, .int .i64 0, .int .i64 0, .int .i64 0, .int .i64 0, .bool false, .int .i64 0, .slice none 0 0]) ?_ 4 _ rfl; (with_reducible repeat (first | refine blk_drewN ?_ _ | refine blk_drew ?_ | refine blk_alloc ?_ _)); refine blk_put (cs := #[.int .i64 3, .int .i64 0, .int .i64 0, .int .i64 0, .int .i64 0, .int .i64 0, .bool false, .int .i64 0, .int .i64 0, .int .i64 0, .int .i64 0, .bool false, .int .i64 0, .slice none 0 0]) ?_ 3 _ rfl; (with_reducible repeat (first | refine blk_drewN ?_ _ | refine blk_drew ?_ | refine blk_alloc ?_ _)); refine blk_put (cs := #[.int .i64 3, .int .i64 0, .int .i64 0, .int .i64 0, .int .i64 0, .int .i64 0, .bool false, .int .i64 0, .int .i64 0, .int .i64 0, .int .i64 0, .bool false, .int .i64 0, .slice none 0 0]) ?_ 2 _ rfl; (with_reducible repeat (first | refine blk_drewN ?_ _ | refine blk_drew ?_ | refine blk_alloc ?_ _)); refine blk_put (cs := #[.int .i64 3, .int .i64 0, .int .i64 0, .int .i64 0, .int .i64 0, .int .i64 0, .bool false, .int .i64 0, .int .i64 0, .int .i64 0, .int .i64 0, .bool false, .int .i64 0, .slice none 0 0]) ?_ 1 _ rfl; (with_reducible repeat (first | refine blk_drewN ?_ _ | refine blk_drew ?_ | refine blk_alloc ?_ _)); refine blk_put (cs := #[.int .i64 0, .int .i64 0, .int .i64 0, .int .i64 0, .int .i64 0, .int .i64 0, .bool false, .int .i64 0, .int .i64 0, .int .i64 0, .int .i64 0, .bool false, .int .i64 0, .slice none 0 0]) ?_ 0 _ rfl; (with_reducible repeat (first | refine blk_drewN ?_ _ | refine blk_drew ?_ | refine blk_alloc ?_ _)); exact BK245.out) Try.underlying46 rfl (by kernel_rfl)) rfl ?_
 exact ⟨rr_, bl1_ HB.out GE245.out⟩

end Go.Proofs.Ytigkkfhpnfjmhaa.PRejG
