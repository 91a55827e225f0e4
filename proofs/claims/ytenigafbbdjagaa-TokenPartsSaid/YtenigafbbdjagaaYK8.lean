/- The laws of tokens: the chapter's example; what the first law hands back. -/
import Derived.Test.YtenigafbbdjagaaYK7
namespace Go.Proofs.Ytenigafbbdjagaa.AL
open Go Go.Proofs
set_option linter.unusedVariables false
set_option linter.unusedSimpArgs false
set_option maxRecDepth 4000
theorem eq4 (a b : Bool) : aeq Try.prog 9 4 (.bool a) (.bool b) = some (decide (a = b)) := by kernel_rfl
attribute [go_sem] eq4
theorem s1_t : decide (([60, 61] : List UInt8) = [60, 61]) = true := rfl
theorem s2_t : decide (([97, 32, 46, 32, 120, 32, 60, 61, 32, 49, 50] : List UInt8) = [97, 32, 46, 32, 120, 32, 60, 61, 32, 49, 50]) = true := rfl
theorem s5_t : decide (((0 + 1 + 1 + 1 + 1 + 1 : Nat) : Int) = 5) = true := rfl
theorem bt_t : decide (true = true) = true := rfl
theorem bf_f : decide (false = false) = true := rfl
def exL : List Tkn := [⟨1, [97], 0⟩, ⟨3, [46], 1⟩, ⟨1, [120], 2⟩, ⟨3, [60, 61], 3⟩, ⟨2, [49, 50], 5⟩]
theorem ex1 : tokensF [97, 46, 120, 60, 61, 49, 50] = (exL, 7, 0) := by decide +kernel
theorem ex2 : tokensF [97, 32, 59] = ([], 2, 1) := by decide +kernel
theorem ex3 : txtF exL = [97, 32, 46, 32, 120, 32, 60, 61, 32, 49, 50] := by decide +kernel

set_option maxHeartbeats 4000000 in
theorem c_awakeT  : FC Try.prog 6 [] (.v (.bool true)) := by
  refine fc_of_body (nt := 58) (rs := [.tmp 0]) (ts := []) Try.func6 rfl rfl rfl rfl (by decide) (Nat.le_of_ble_eq_true rfl) ?_
  have k1 := c_tokens [97, 46, 120, 60, 61, 49, 50]
  have k2 := c_tokens [97, 32, 59]
  have k3 := c_print exL (by decide)
  have k4 := c_letter 95
  rw [ex1] at k1
  rw [ex2] at k2
  rw [ex3] at k3
  rw [show letterF 95 = true by decide] at k4
  have i3 : ixA (exL.map Tkn.e) 3 = some (.agg [.int .i64 3, .str [60, 61], .int .i64 3]) := rfl
  have i4 : ixA (exL.map Tkn.e) 4 = some (.agg [.int .i64 2, .str [49, 50], .int .i64 5]) := rfl
  simp only [toksE, exL, List.map_cons, List.map_nil, Tkn.e_eq, Int.cast_ofNat_Int] at k1 k2 k3 i3 i4
  repeat' first
   | with_reducible first | refine thenQ_n ?_ | refine thenQ_r ?_ | refine thenQ_e ?_ | refine blockQ_n ?_ | refine blockQ_r ?_ | refine blockQ_e ?_ | refine tri_seq fun K hK => ?_ | refine tri_skip ?_ | refine tri_ret ?_ | refine tri_exit ?_ | refine tri_block ?_ | refine tri_region ?_ | refine sq_nil ?_
   | refine blockQ_o ?_ (by rfl)
   | ((with_reducible apply s_w); (case hw => exact xWT); first | ((with_reducible apply sg_q); (case hd => exact rfl); (case hn => exact rfl); (case he => (first | exact xE0 | ((with_reducible apply e_bi); (case hx => exact xDK); (case hy => exact xDK); (case hs => exact rfl); (case h => (simp only [binI, Int.reduceAdd, Int.reduceSub, Int.reduceMul, Int.reduceLT, Int.reduceLE, Int.reduceGT, Int.reduceEq, Int.reduceNeg, decide_true, decide_false, Bool.not_true, Bool.not_false, List.length_cons, List.length_nil, bt_t, bf_f, i3, i4, s1_t, s2_t, s5_t, Bool.and_true, Bool.and_self]; with_reducible rfl))) | ((with_reducible apply e_ix); (case hx => exact xDK); (case hi => exact xDK); (case ht => exact xTY); (case hz => exact rfl); (case he => (simp only [List.length_cons, List.length_nil, bt_t, bf_f, i3, i4, s1_t, s2_t, s5_t, Bool.and_true, Bool.and_self]; with_reducible rfl)); (case hc => exact xGS)) | ((with_reducible apply e_ln); (case hx => exact xDK); (case ht => exact xTY); (case hn => (first | (simp only [List.length_map, List.length_cons, List.length_nil, List.length_cons, List.length_nil, bt_t, bf_f, i3, i4, s1_t, s2_t, s5_t, Bool.and_true, Bool.and_self]; with_reducible rfl) | rfl))) | ((with_reducible apply e_nt); (case hx => exact xDK); (case h => (first | (simp only [Bool.not_true, Bool.not_false, List.length_cons, List.length_nil, bt_t, bf_f, i3, i4, s1_t, s2_t, s5_t, Bool.and_true, Bool.and_self]; with_reducible rfl) | rfl)))))) | (((with_reducible apply sg_k); (case ha => exact xDA); (case hfc => ((try simp only [List.length_cons, List.length_nil, bt_t, bf_f, i3, i4, s1_t, s2_t, s5_t, Bool.and_true, Bool.and_self]); first | exact k1 | exact k2 | exact k3 | exact k4 )); (case hr => exact xRT))) | ((with_reducible apply sg_kv); (case hv => exact rfl); (case ha => exact xDA); (case hl => exact xLs); (case hfc => ((try simp only [List.length_cons, List.length_nil, bt_t, bf_f, i3, i4, s1_t, s2_t, s5_t, Bool.and_true, Bool.and_self]); first | exact k1 | exact k2 | exact k3 | exact k4 )); (case hr => exact xRT)) | (((with_reducible apply sg_kf); (case hv => exact rfl); (case hc => (first | exact rfl | (simp only [go_sem]; rfl))); (case ha => exact xDA); (case hl => exact xLs); (case hfc => ((try simp only [List.length_cons, List.length_nil, bt_t, bf_f, i3, i4, s1_t, s2_t, s5_t, Bool.and_true, Bool.and_self]); first | exact k1 | exact k2 | exact k3 | exact k4 )); (case hr => exact xRT))) | (((with_reducible apply sg_nil); (case hn => exact rfl); (case hx => exact xDK); (case ht => exact xTY); intro β hβ)) | (((with_reducible apply sg_bx); (case hn => exact rfl); (case hv => exact xLT); (case hc => exact xGS); (case hk => exact rfl))) | (((with_reducible apply sg_al); (case hn => exact rfl); (case hz => exact xTY); (case hc => exact xGS); (case hk => exact rfl))) | (((with_reducible apply sg_st); (case hx => exact xLK); (case hv => exact xLT); (case hc => exact xGS); (case hb => exact rfl); (case ht => exact xTY); (case hz => exact rfl); (case hs => exact xGS))) | (((with_reducible apply sg_e); (case hc => (intros; simp)); (case hs => (simp only [go_sem, Nat.reduceBEq, Nat.reduceBNe, Nat.reduceLT, Nat.reduceGT, Int.reduceGT, Int.reduceMul, Int.reduceAdd, Int.reduceSub, Nat.reduceAdd, Nat.reduceMul, Nat.reduceLeDiff, Nat.reduceEqDiff, Nat.reduceSub, Int.reduceNeg, Int.reduceToNat, Int.reduceLT, Int.reduceLE, Int.reduceEq, Int.cast_ofNat_Int, decide_true, decide_false, Bool.not_true, Bool.not_false, Bool.and_self, reduceIte, reduceCtorEq, List.length_cons, List.length_nil, bt_t, bf_f, i3, i4, s1_t, s2_t, s5_t, Bool.and_true, Bool.and_self]; with_reducible rfl)))))
   | ((with_reducible apply s_n); (case hw => exact xWF); (case hd => exact rfl); (case hn => exact rfl))
   | ((with_reducible apply qs_ct); (case hc => exact xLK); (case he => exact xHB))
   | ((with_reducible apply qs_cf); (case hc => exact xLK); (case he => exact xHB))
   | ((with_reducible apply qs_cond); (case hc => exact xLK); (case hu => exact xUK); all_goals (intro hb))
   | ((with_reducible apply s_if); (case hg => exact rfl); (case hd => exact rfl); (case he => exact rfl); (case hu => exact xUK); all_goals (intro hb))
   | ((first | apply post_r | apply post_a); (case h1 => first | exact r1_t rfl rfl | (simp only [go_sem, Nat.reduceBEq, Nat.reduceBNe, Nat.reduceLT, Nat.reduceGT, Int.reduceGT, Int.reduceMul, Int.reduceAdd, Int.reduceSub, Nat.reduceAdd, Nat.reduceMul, Nat.reduceLeDiff, Nat.reduceEqDiff, Nat.reduceSub, Int.reduceNeg, Int.reduceToNat, Int.reduceLT, Int.reduceLE, Int.reduceEq, Int.cast_ofNat_Int, decide_true, decide_false, Bool.not_true, Bool.not_false, Bool.and_self, reduceIte, reduceCtorEq, List.length_cons, List.length_nil, bt_t, bf_f, i3, i4, s1_t, s2_t, s5_t, Bool.and_true, Bool.and_self]; with_reducible rfl)); (case he => simp))
   | (refine hK _ ?_; clear hK)
   | (clear hK; refine hK _ ?_; clear hK)
   | (clear hK; clear hK; refine hK _ ?_; clear hK)
   | (clear hK; clear hK; clear hK; refine hK _ ?_; clear hK)
   | (clear hK; clear hK; clear hK; clear hK; refine hK _ ?_; clear hK)
   | fail
  all_goals first | done | rfl | trace_state

end Go.Proofs.Ytenigafbbdjagaa.AL
