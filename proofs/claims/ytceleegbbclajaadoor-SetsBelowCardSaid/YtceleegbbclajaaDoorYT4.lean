/- Contracts: how many members there are. -/
import Derived.Laws.Bits128
import Derived.Test.YtceleegbbclajaaDoorYT1
namespace Go.Proofs.YtceleegbbclajaaDoor.AL
open Go
set_option linter.unusedVariables false
set_option linter.unusedSimpArgs false
set_option maxRecDepth 4000
theorem shr_nat (x k : Nat) : (x : Int).fdiv (2 ^ k) = ((x / 2 ^ k : Nat) : Int) := by
  rw [Int.fdiv_eq_ediv_of_nonneg _ (by have : (0 : Int) < 2 ^ k := Int.pow_pos (by omega); omega)]
  simp
theorem msk1 : mskB 85 8 = 6148914691236517205 := by decide
theorem msk2 : mskB 51 8 = 3689348814741910323 := by decide
theorem msk3 : mskB 15 8 = 1085102592571150095 := by decide
theorem pc1_le (x : Nat) : pc1 8 x ≤ 12297829382473034410 := by
  have h1 : (x / 2) &&& mskB 85 8 ≤ mskB 85 8 := Nat.and_le_right
  have h2 : x &&& mskB 85 8 ≤ mskB 85 8 := Nat.and_le_right
  rw [msk1] at h1 h2
  unfold pc1; rw [msk1]; omega
theorem pc2_le (x : Nat) : pc2 8 x ≤ 7378697629483820646 := by
  have h1 : (x / 4) &&& mskB 51 8 ≤ mskB 51 8 := Nat.and_le_right
  have h2 : x &&& mskB 51 8 ≤ mskB 51 8 := Nat.and_le_right
  rw [msk2] at h1 h2
  unfold pc2; rw [msk2]; omega
theorem ones1 {s : Nat} (hs : s < 18446744073709551616) : IntKind.u64.wrap (bits .and .u64 ((s : Int).fdiv (2 ^ min 1 64)) 6148914691236517205 + bits .and .u64 (s : Int) 6148914691236517205) = ((pc1 8 s : Nat) : Int) := by
  have h := pc1_le s
  have e1 := u64_and_nat (s / 2) 6148914691236517205 (by omega) (by omega)
  have e2 := u64_and_nat s 6148914691236517205 hs (by omega)
  rw [show min 1 64 = 1 by rfl, shr_nat, show s / 2 ^ 1 = s / 2 by rfl]
  have e3 : bits .and .u64 ((s / 2 : Nat) : Int) 6148914691236517205 + bits .and .u64 (s : Int) 6148914691236517205 = ((pc1 8 s : Nat) : Int) := by
    rw [show (6148914691236517205 : Int) = ((6148914691236517205 : Nat) : Int) by rfl, e1, e2, ← msk1]; rfl
  rw [e3, IntKind.wrap_u64]; omega
theorem ones2 {s : Nat} (hs : s ≤ 12297829382473034410) : IntKind.u64.wrap (bits .and .u64 ((s : Int).fdiv (2 ^ min 2 64)) 3689348814741910323 + bits .and .u64 (s : Int) 3689348814741910323) = ((pc2 8 s : Nat) : Int) := by
  have h := pc2_le s
  have e1 := u64_and_nat (s / 4) 3689348814741910323 (by omega) (by omega)
  have e2 := u64_and_nat s 3689348814741910323 (by omega) (by omega)
  rw [show min 2 64 = 2 by rfl, shr_nat, show s / 2 ^ 2 = s / 4 by rfl]
  have e3 : bits .and .u64 ((s / 4 : Nat) : Int) 3689348814741910323 + bits .and .u64 (s : Int) 3689348814741910323 = ((pc2 8 s : Nat) : Int) := by
    rw [show (3689348814741910323 : Int) = ((3689348814741910323 : Nat) : Int) by rfl, e1, e2, ← msk2]; rfl
  rw [e3, IntKind.wrap_u64]; omega
theorem ones3 {s : Nat} (hs : s ≤ 7378697629483820646) : bits .and .u64 (IntKind.u64.wrap ((s : Int).fdiv (2 ^ min 4 64) + (s : Int))) 1085102592571150095 = ((pc3 8 s : Nat) : Int) := by
  have e1 := u64_and_nat (s / 16 + s) 1085102592571150095 (by omega) (by omega)
  rw [show min 4 64 = 4 by rfl, shr_nat, show s / 2 ^ 4 = s / 16 by rfl]
  have e2 : IntKind.u64.wrap (((s / 16 : Nat) : Int) + (s : Int)) = ((s / 16 + s : Nat) : Int) := by rw [IntKind.wrap_u64]; omega
  rw [e2, show (1085102592571150095 : Int) = ((1085102592571150095 : Nat) : Int) by rfl, e1, ← msk3]; rfl
theorem onesN {x a k : Nat} (h : x + x / 2 ^ k < 18446744073709551616) : IntKind.u64.wrap ((x : Int) + (x : Int).fdiv (2 ^ k)) = ((x + x / 2 ^ k : Nat) : Int) := by
  rw [shr_nat, IntKind.wrap_u64, ← Int.natCast_add]
  generalize x + x / 2 ^ k = z at *
  omega
theorem dv1 {a t : Nat} (h : a < 256) : (a + 256 * t) / 256 = t := by omega
theorem dv2 {a b t : Nat} (h : a < 256) (h2 : b < 256) : (a + 256 * (b + 256 * t)) / 65536 = t := by omega
theorem dv4 {a b c d t : Nat} (h : a < 256) (h2 : b < 256) (h3 : c < 256) (h4 : d < 256) : (a + 256 * (b + 256 * (c + 256 * (d + 256 * t)))) / 4294967296 = t := by omega
theorem md1 {a t : Nat} (h : a < 128) : (a + 256 * t) % 128 = a := by omega
theorem le8 {a b c d e f g h : Nat} (h0 : a ≤ 8) (h1 : b ≤ 8) (h2 : c ≤ 8) (h3 : d ≤ 8) (h4 : e ≤ 8) (h5 : f ≤ 8) (h6 : g ≤ 8) (h7 : h ≤ 8) : a + b + c + d + e + f + g + h < 128 := by omega
theorem lt8 {b0 b1 b2 b3 b4 b5 b6 b7 : Nat} (h0 : b0 ≤ 8) (h1 : b1 ≤ 8) (h2 : b2 ≤ 8) (h3 : b3 ≤ 8) (h4 : b4 ≤ 8) (h5 : b5 ≤ 8) (h6 : b6 ≤ 8) (h7 : b7 ≤ 8) : b0 + 256 * (b1 + 256 * (b2 + 256 * (b3 + 256 * (b4 + 256 * (b5 + 256 * (b6 + 256 * b7)))))) < 9223372036854775808 := by omega
theorem gt1 {v y : Nat} (h : v < 9223372036854775808) (e : v + v / 256 = y) : y < 9259400833873739776 := by omega
theorem gt2 {v y : Nat} (h : v < 9259400833873739776) (e : v + v / 65536 = y) : y < 9259542123273814144 := by omega
theorem gt3 {v : Nat} (h : v < 9259542123273814144) : v + v / 4294967296 < 18446744073709551616 := by omega
theorem s2 {a b : Nat} (h : a ≤ 8) (h' : b ≤ 8) : a + b < 256 := by omega
theorem s3 {a b c : Nat} (h : a ≤ 8) (h' : b ≤ 8) (h2 : c ≤ 8) : a + b + c < 256 := by omega
theorem s4 {a b c d : Nat} (h : a ≤ 8) (h' : b ≤ 8) (h2 : c ≤ 8) (h3 : d ≤ 8) : a + b + (c + d) < 256 := by omega
theorem pull (a h c k : Nat) : a + 256 * h + (c + 256 * k) = (a + c) + 256 * (h + k) := by omega
theorem fin7 {w : Nat} (h : w < 18446744073709551616) : IntKind.i64.wrap (w : Int) % 128 = ((w % 128 : Nat) : Int) := by rw [IntKind.wrap_i64]; omega
theorem add8 (b0 b1 b2 b3 b4 b5 b6 b7 : Nat) : b0 + b1 + (b2 + b3) + (b4 + b5 + (b6 + b7)) = b0 + b1 + b2 + b3 + b4 + b5 + b6 + b7 := by omega
theorem ones_y {v b0 b1 b2 b3 b4 b5 b6 b7 : Nat} (g0 : b0 ≤ 8) (e : v = b0 + 256 * (b1 + 256 * (b2 + 256 * (b3 + 256 * (b4 + 256 * (b5 + 256 * (b6 + 256 * b7))))))) : v + v / 256 = (b0 + b1) + 256 * ((b1 + b2) + 256 * ((b2 + b3) + 256 * ((b3 + b4) + 256 * ((b4 + b5) + 256 * ((b5 + b6) + 256 * ((b6 + b7) + 256 * b7)))))) := by
  rw [e, dv1 (Nat.lt_of_le_of_lt g0 (by decide)), pull, pull, pull, pull, pull, pull, Nat.add_right_comm b6]
theorem ones_z {y c0 c1 c2 c3 c4 c5 c6 c7 : Nat} (g0 : c0 < 256) (g1 : c1 < 256) (e : y = c0 + 256 * (c1 + 256 * (c2 + 256 * (c3 + 256 * (c4 + 256 * (c5 + 256 * (c6 + 256 * c7))))))) : y + y / 65536 = (c0 + c2) + 256 * ((c1 + c3) + 256 * ((c2 + c4) + 256 * ((c3 + c5) + 256 * ((c4 + c6) + 256 * ((c5 + c7) + 256 * (c6 + 256 * c7)))))) := by
  rw [e, dv2 g0 g1, pull, pull, pull, pull, pull, Nat.add_right_comm c5]
theorem ones_w {z d0 d1 d2 d3 d4 d5 d6 d7 : Nat} (g0 : d0 < 256) (g1 : d1 < 256) (g2 : d2 < 256) (g3 : d3 < 256) (g : d0 + d4 < 128) (e : z = d0 + 256 * (d1 + 256 * (d2 + 256 * (d3 + 256 * (d4 + 256 * (d5 + 256 * (d6 + 256 * d7))))))) : (z + z / 4294967296) % 128 = d0 + d4 := by
  rw [e, dv4 g0 g1 g2 g3, pull, md1 g]
theorem ones_fin (x : Nat) (hx : x < 18446744073709551616) : ∃ y z w : Nat, IntKind.u64.wrap (((cntW 8 x : Nat) : Int) + ((cntW 8 x : Nat) : Int).fdiv (2 ^ min 8 64)) = (y : Int) ∧ IntKind.u64.wrap ((y : Int) + (y : Int).fdiv (2 ^ min 16 64)) = (z : Int) ∧ IntKind.u64.wrap ((z : Int) + (z : Int).fdiv (2 ^ min 32 64)) = (w : Int) ∧ bits .and .i64 (IntKind.i64.wrap (w : Int)) 127 = ((cntB (digs x 64) : Nat) : Int) := by
  obtain ⟨b0, b1, b2, b3, b4, b5, b6, b7, g0, g1, g2, g3, g4, g5, g6, g7, e, ec⟩ := cnt_sum x hx
  rw [show min 8 64 = 8 by rfl, show min 16 64 = 16 by rfl, show min 32 64 = 32 by rfl]
  generalize cntW 8 x = v at *
  have p8 : (2 : Nat) ^ 8 = 256 := by rfl
  have p16 : (2 : Nat) ^ 16 = 65536 := by rfl
  have p32 : (2 : Nat) ^ 32 = 4294967296 := by rfl
  have l1 : v < 9223372036854775808 := e ▸ lt8 g0 g1 g2 g3 g4 g5 g6 g7
  have q1 := ones_y g0 e
  generalize hy : v + v / 256 = y at q1
  have ly := gt1 l1 hy
  have q2 := ones_z (s2 g0 g1) (s2 g1 g2) q1
  generalize hz : y + y / 65536 = z at q2
  have lz := gt2 ly hz
  have lw := gt3 lz
  have h128 := le8 g0 g1 g2 g3 g4 g5 g6 g7
  rw [← add8] at h128
  have q3 := ones_w (s4 g0 g1 g2 g3) (s4 g1 g2 g3 g4) (s4 g2 g3 g4 g5) (s4 g3 g4 g5 g6) h128 q2
  rw [add8] at q3
  refine ⟨y, z, z + z / 4294967296, ?_, ?_, ?_, ?_⟩
  · rw [onesN (a := 0) (by rw [p8, hy]; exact Nat.lt_trans ly (by decide)), p8, hy]
  · rw [onesN (a := 0) (by rw [p16, hz]; exact Nat.lt_trans lz (by decide)), p16, hz]
  · rw [onesN (a := 0) (by rw [p32]; exact lw), p32]
  · rw [ec, ← q3, i64_and127, fin7 lw]

set_option maxHeartbeats 4000000 in
theorem c_ones (s : Nat) (hs : s < 18446744073709551616) : FC Tryd.prog 29 [.int .u64 s] (.v (.int .i64 ((membs s).length : Nat))) := by
  refine fc_of_body (nt := 35) (rs := [.tmp 2]) (ts := [(0, _)]) Tryd.func29 rfl rfl rfl rfl (by decide) (Nat.le_of_ble_eq_true rfl) ?_
  have h1 := ones1 hs
  have h2 := ones2 (pc1_le s)
  have h3 := ones3 (pc2_le (pc1 8 s))
  rw [pc_all] at h3
  obtain ⟨y, z, w, h4, h5, h6, h7⟩ := ones_fin s hs
  have h8 : cntB (digs s 64) = (membs s).length := cntB_map s.testBit (List.range 64)
  rw [h8] at h7
  repeat' first
   | with_reducible first | refine thenQ_n ?_ | refine thenQ_r ?_ | refine thenQ_e ?_ | refine blockQ_n ?_ | refine blockQ_r ?_ | refine blockQ_e ?_ | refine tri_seq fun K hK => ?_ | refine tri_skip ?_ | refine tri_ret ?_ | refine tri_exit ?_ | refine tri_block ?_ | refine tri_region ?_ | refine sq_nil ?_
   | refine blockQ_o ?_ (by rfl)
   | ((with_reducible apply s_w); (case hw => exact xWT); first | ((with_reducible apply sg_q); (case hd => exact rfl); (case hn => exact rfl); (case he => (first | exact xE0 | ((with_reducible apply e_bi); (case hx => exact xDK); (case hy => exact xDK); (case hs => exact rfl); (case h => (simp only [binI, Int.reduceAdd, Int.reduceSub, Int.reduceMul, Int.reduceLT, Int.reduceLE, Int.reduceGT, Int.reduceEq, Int.reduceNeg, decide_true, decide_false, Bool.not_true, Bool.not_false, h1, h2, h3, h4, h5, h6, h7]; with_reducible rfl))) | ((with_reducible apply e_ix); (case hx => exact xDK); (case hi => exact xDK); (case ht => exact xTY); (case hz => exact rfl); (case he => (simp only [h1, h2, h3, h4, h5, h6, h7]; with_reducible rfl)); (case hc => exact xGS)) | ((with_reducible apply e_ln); (case hx => exact xDK); (case ht => exact xTY); (case hn => (first | (simp only [List.length_map, List.length_cons, List.length_nil, h1, h2, h3, h4, h5, h6, h7]; with_reducible rfl) | rfl))) | ((with_reducible apply e_nt); (case hx => exact xDK); (case h => (first | (simp only [Bool.not_true, Bool.not_false, h1, h2, h3, h4, h5, h6, h7]; with_reducible rfl) | rfl)))))) | (((with_reducible apply sg_bx); (case hn => exact rfl); (case hv => exact xLT); (case hc => exact xGS); (case hk => exact rfl))) | (((with_reducible apply sg_al); (case hn => exact rfl); (case hz => exact xTY); (case hc => exact xGS); (case hk => exact rfl))) | (((with_reducible apply sg_st); (case hx => exact xLK); (case hv => exact xLT); (case hc => exact xGS); (case hb => exact rfl); (case ht => exact xTY); (case hz => exact rfl); (case hs => exact xGS))) | (((with_reducible apply sg_e); (case hc => (intros; simp)); (case hs => (simp only [go_sem, Nat.reduceBEq, Nat.reduceBNe, Nat.reduceLT, Nat.reduceGT, Int.reduceGT, Int.reduceMul, Int.reduceAdd, Int.reduceSub, Nat.reduceAdd, Nat.reduceMul, Nat.reduceLeDiff, Nat.reduceEqDiff, Nat.reduceSub, Int.reduceNeg, Int.reduceToNat, Int.reduceLT, Int.reduceLE, Int.reduceEq, Int.cast_ofNat_Int, decide_true, decide_false, Bool.not_true, Bool.not_false, Bool.and_self, reduceIte, reduceCtorEq, h1, h2, h3, h4, h5, h6, h7]; with_reducible rfl)))))
   | ((with_reducible apply s_n); (case hw => exact xWF); (case hd => exact rfl); (case hn => exact rfl))
   | ((with_reducible apply qs_ct); (case hc => exact xLK); (case he => exact xHB))
   | ((with_reducible apply qs_cf); (case hc => exact xLK); (case he => exact xHB))
   | ((with_reducible apply qs_cond); (case hc => exact xLK); (case hu => exact xUK); all_goals (intro hb))
   | ((with_reducible apply s_if); (case hg => exact rfl); (case hd => exact rfl); (case he => exact rfl); (case hu => exact xUK); all_goals (intro hb))
   | ((first | apply post_r | apply post_a); (case h1 => first | exact r1_t rfl rfl | exact xR); (case he => simp))
   | (refine hK _ ?_; clear hK)
   | (clear hK; refine hK _ ?_; clear hK)
   | (clear hK; clear hK; refine hK _ ?_; clear hK)
   | (clear hK; clear hK; clear hK; refine hK _ ?_; clear hK)
   | (clear hK; clear hK; clear hK; clear hK; refine hK _ ?_; clear hK)
   | fail
  all_goals (repeat (clear hK))
  all_goals rfl

end Go.Proofs.YtceleegbbclajaaDoor.AL
