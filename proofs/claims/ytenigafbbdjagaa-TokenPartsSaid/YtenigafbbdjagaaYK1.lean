/- Contracts: letters, digits, signs. -/
import Derived.Test.YtenigafbbdjagaaYAI
import Derived.Test.YtenigafbbdjagaaYJ1
namespace Go.Proofs.Ytenigafbbdjagaa.AL
open Go Go.Proofs
set_option linter.unusedVariables false
set_option linter.unusedSimpArgs false
set_option maxRecDepth 4000
def letterF (r : Int) : Bool := decide ((97 ≤ r ∧ r ≤ 122) ∨ (65 ≤ r ∧ r ≤ 90) ∨ r = 95 ∨ (128 ≤ r ∧ r ≠ 65533))
def digitF (r : Int) : Bool := decide (48 ≤ r ∧ r ≤ 57)
def signF (r : Int) : Bool := decide (r = 40 ∨ r = 41 ∨ r = 44 ∨ r = 46 ∨ r = 61 ∨ r = 60 ∨ r = 62 ∨ r = 45)

set_option maxHeartbeats 4000000 in
theorem c_letter (r : Int) : FC Try.prog 13 [.int .i32 r] (.v (.bool (letterF r))) := by
  refine fc_of_body (nt := 24) (rs := [.tmp 2]) (ts := [(0, _)]) Try.func13 rfl rfl rfl rfl (by decide) (Nat.le_of_ble_eq_true rfl) ?_
  repeat' first
   | with_reducible first | refine thenQ_n ?_ | refine thenQ_r ?_ | refine thenQ_e ?_ | refine blockQ_n ?_ | refine blockQ_r ?_ | refine blockQ_e ?_ | refine tri_seq fun K hK => ?_ | refine tri_skip ?_ | refine tri_ret ?_ | refine tri_exit ?_ | refine tri_block ?_ | refine tri_region ?_ | refine sq_nil ?_
   | refine blockQ_o ?_ (by rfl)
   | ((with_reducible apply s_w); (case hw => exact xWT); first | ((with_reducible apply sg_q); (case hd => exact rfl); (case hn => exact rfl); (case he => (first | exact xE0 | ((with_reducible apply e_bi); (case hx => exact xDK); (case hy => exact xDK); (case hs => exact rfl); (case h => (simp only [binI, Int.reduceAdd, Int.reduceSub, Int.reduceMul, Int.reduceLT, Int.reduceLE, Int.reduceGT, Int.reduceEq, Int.reduceNeg, decide_true, decide_false, Bool.not_true, Bool.not_false]; with_reducible rfl))) | ((with_reducible apply e_ix); (case hx => exact xDK); (case hi => exact xDK); (case ht => exact xTY); (case hz => exact rfl); (case he => (simp only [go_sem]; with_reducible rfl)); (case hc => exact xGS)) | ((with_reducible apply e_ln); (case hx => exact xDK); (case ht => exact xTY); (case hn => (first | (simp only [List.length_map, List.length_cons, List.length_nil]; with_reducible rfl) | rfl))) | ((with_reducible apply e_nt); (case hx => exact xDK); (case h => (first | (simp only [Bool.not_true, Bool.not_false]; with_reducible rfl) | rfl)))))) | (((with_reducible apply sg_nil); (case hn => exact rfl); (case hx => exact xDK); (case ht => exact xTY); intro β hβ)) | (((with_reducible apply sg_bx); (case hn => exact rfl); (case hv => exact xLT); (case hc => exact xGS); (case hk => exact rfl))) | (((with_reducible apply sg_al); (case hn => exact rfl); (case hz => exact xTY); (case hc => exact xGS); (case hk => exact rfl))) | (((with_reducible apply sg_st); (case hx => exact xLK); (case hv => exact xLT); (case hc => exact xGS); (case hb => exact rfl); (case ht => exact xTY); (case hz => exact rfl); (case hs => exact xGS))) | (((with_reducible apply sg_e); (case hc => (intros; simp)); (case hs => (simp only [go_sem, Nat.reduceBEq, Nat.reduceBNe, Nat.reduceLT, Nat.reduceGT, Int.reduceGT, Int.reduceMul, Int.reduceAdd, Int.reduceSub, Nat.reduceAdd, Nat.reduceMul, Nat.reduceLeDiff, Nat.reduceEqDiff, Nat.reduceSub, Int.reduceNeg, Int.reduceToNat, Int.reduceLT, Int.reduceLE, Int.reduceEq, Int.cast_ofNat_Int, decide_true, decide_false, Bool.not_true, Bool.not_false, Bool.and_self, reduceIte, reduceCtorEq]; with_reducible rfl)))))
   | ((with_reducible apply s_n); (case hw => exact xWF); (case hd => exact rfl); (case hn => exact rfl))
   | ((with_reducible apply qs_ct); (case hc => exact xLK); (case he => exact xHB))
   | ((with_reducible apply qs_cf); (case hc => exact xLK); (case he => exact xHB))
   | ((with_reducible apply qs_cond); (case hc => exact xLK); (case hu => exact xUK); all_goals (intro hb))
   | ((with_reducible apply s_if); (case hg => exact rfl); (case hd => exact rfl); (case he => exact rfl); (case hu => exact xUK); all_goals (intro hb))
   | ((first | apply post_r | apply post_a); (case h1 => first | exact r1_t rfl rfl | (simp only [go_sem, Nat.reduceBEq, Nat.reduceBNe, Nat.reduceLT, Nat.reduceGT, Int.reduceGT, Int.reduceMul, Int.reduceAdd, Int.reduceSub, Nat.reduceAdd, Nat.reduceMul, Nat.reduceLeDiff, Nat.reduceEqDiff, Nat.reduceSub, Int.reduceNeg, Int.reduceToNat, Int.reduceLT, Int.reduceLE, Int.reduceEq, Int.cast_ofNat_Int, decide_true, decide_false, Bool.not_true, Bool.not_false, Bool.and_self, reduceIte, reduceCtorEq]; with_reducible rfl)); (case he => simp))
   | (refine hK _ ?_; clear hK)
   | (clear hK; refine hK _ ?_; clear hK)
   | (clear hK; clear hK; refine hK _ ?_; clear hK)
   | (clear hK; clear hK; clear hK; refine hK _ ?_; clear hK)
   | (clear hK; clear hK; clear hK; clear hK; refine hK _ ?_; clear hK)
   | fail
  all_goals (repeat (clear hK))
  all_goals first | done | (simp_all [letterF]; done) | grind [letterF]

set_option maxHeartbeats 4000000 in
theorem c_refLetter (r : Int) : FC Try.prog 14 [.int .i32 r] (.v (.bool (letterF r))) := by
  refine fc_of_body (nt := 29) (rs := [.tmp 2]) (ts := [(0, _)]) Try.func14 rfl rfl rfl rfl (by decide) (Nat.le_of_ble_eq_true rfl) ?_
  repeat' first
   | with_reducible first | refine thenQ_n ?_ | refine thenQ_r ?_ | refine thenQ_e ?_ | refine blockQ_n ?_ | refine blockQ_r ?_ | refine blockQ_e ?_ | refine tri_seq fun K hK => ?_ | refine tri_skip ?_ | refine tri_ret ?_ | refine tri_exit ?_ | refine tri_block ?_ | refine tri_region ?_ | refine sq_nil ?_
   | refine blockQ_o ?_ (by rfl)
   | ((with_reducible apply s_w); (case hw => exact xWT); first | ((with_reducible apply sg_q); (case hd => exact rfl); (case hn => exact rfl); (case he => (first | exact xE0 | ((with_reducible apply e_bi); (case hx => exact xDK); (case hy => exact xDK); (case hs => exact rfl); (case h => (simp only [binI, Int.reduceAdd, Int.reduceSub, Int.reduceMul, Int.reduceLT, Int.reduceLE, Int.reduceGT, Int.reduceEq, Int.reduceNeg, decide_true, decide_false, Bool.not_true, Bool.not_false]; with_reducible rfl))) | ((with_reducible apply e_ix); (case hx => exact xDK); (case hi => exact xDK); (case ht => exact xTY); (case hz => exact rfl); (case he => (simp only [go_sem]; with_reducible rfl)); (case hc => exact xGS)) | ((with_reducible apply e_ln); (case hx => exact xDK); (case ht => exact xTY); (case hn => (first | (simp only [List.length_map, List.length_cons, List.length_nil]; with_reducible rfl) | rfl))) | ((with_reducible apply e_nt); (case hx => exact xDK); (case h => (first | (simp only [Bool.not_true, Bool.not_false]; with_reducible rfl) | rfl)))))) | (((with_reducible apply sg_nil); (case hn => exact rfl); (case hx => exact xDK); (case ht => exact xTY); intro β hβ)) | (((with_reducible apply sg_bx); (case hn => exact rfl); (case hv => exact xLT); (case hc => exact xGS); (case hk => exact rfl))) | (((with_reducible apply sg_al); (case hn => exact rfl); (case hz => exact xTY); (case hc => exact xGS); (case hk => exact rfl))) | (((with_reducible apply sg_st); (case hx => exact xLK); (case hv => exact xLT); (case hc => exact xGS); (case hb => exact rfl); (case ht => exact xTY); (case hz => exact rfl); (case hs => exact xGS))) | (((with_reducible apply sg_e); (case hc => (intros; simp)); (case hs => (simp only [go_sem, Nat.reduceBEq, Nat.reduceBNe, Nat.reduceLT, Nat.reduceGT, Int.reduceGT, Int.reduceMul, Int.reduceAdd, Int.reduceSub, Nat.reduceAdd, Nat.reduceMul, Nat.reduceLeDiff, Nat.reduceEqDiff, Nat.reduceSub, Int.reduceNeg, Int.reduceToNat, Int.reduceLT, Int.reduceLE, Int.reduceEq, Int.cast_ofNat_Int, decide_true, decide_false, Bool.not_true, Bool.not_false, Bool.and_self, reduceIte, reduceCtorEq]; with_reducible rfl)))))
   | ((with_reducible apply s_n); (case hw => exact xWF); (case hd => exact rfl); (case hn => exact rfl))
   | ((with_reducible apply qs_ct); (case hc => exact xLK); (case he => exact xHB))
   | ((with_reducible apply qs_cf); (case hc => exact xLK); (case he => exact xHB))
   | ((with_reducible apply qs_cond); (case hc => exact xLK); (case hu => exact xUK); all_goals (intro hb))
   | ((with_reducible apply s_if); (case hg => exact rfl); (case hd => exact rfl); (case he => exact rfl); (case hu => exact xUK); all_goals (intro hb))
   | ((first | apply post_r | apply post_a); (case h1 => first | exact r1_t rfl rfl | (simp only [go_sem, Nat.reduceBEq, Nat.reduceBNe, Nat.reduceLT, Nat.reduceGT, Int.reduceGT, Int.reduceMul, Int.reduceAdd, Int.reduceSub, Nat.reduceAdd, Nat.reduceMul, Nat.reduceLeDiff, Nat.reduceEqDiff, Nat.reduceSub, Int.reduceNeg, Int.reduceToNat, Int.reduceLT, Int.reduceLE, Int.reduceEq, Int.cast_ofNat_Int, decide_true, decide_false, Bool.not_true, Bool.not_false, Bool.and_self, reduceIte, reduceCtorEq]; with_reducible rfl)); (case he => simp))
   | (refine hK _ ?_; clear hK)
   | (clear hK; refine hK _ ?_; clear hK)
   | (clear hK; clear hK; refine hK _ ?_; clear hK)
   | (clear hK; clear hK; clear hK; refine hK _ ?_; clear hK)
   | (clear hK; clear hK; clear hK; clear hK; refine hK _ ?_; clear hK)
   | fail
  all_goals (repeat (clear hK))
  all_goals first | done | (simp_all [letterF]; done) | grind [letterF]

set_option maxHeartbeats 4000000 in
theorem c_digit (r : Int) : FC Try.prog 20 [.int .i32 r] (.v (.bool (digitF r))) := by
  refine fc_of_body (nt := 9) (rs := [.tmp 2]) (ts := [(0, _)]) Try.func20 rfl rfl rfl rfl (by decide) (Nat.le_of_ble_eq_true rfl) ?_
  repeat' first
   | with_reducible first | refine thenQ_n ?_ | refine thenQ_r ?_ | refine thenQ_e ?_ | refine blockQ_n ?_ | refine blockQ_r ?_ | refine blockQ_e ?_ | refine tri_seq fun K hK => ?_ | refine tri_skip ?_ | refine tri_ret ?_ | refine tri_exit ?_ | refine tri_block ?_ | refine tri_region ?_ | refine sq_nil ?_
   | refine blockQ_o ?_ (by rfl)
   | ((with_reducible apply s_w); (case hw => exact xWT); first | ((with_reducible apply sg_q); (case hd => exact rfl); (case hn => exact rfl); (case he => (first | exact xE0 | ((with_reducible apply e_bi); (case hx => exact xDK); (case hy => exact xDK); (case hs => exact rfl); (case h => (simp only [binI, Int.reduceAdd, Int.reduceSub, Int.reduceMul, Int.reduceLT, Int.reduceLE, Int.reduceGT, Int.reduceEq, Int.reduceNeg, decide_true, decide_false, Bool.not_true, Bool.not_false]; with_reducible rfl))) | ((with_reducible apply e_ix); (case hx => exact xDK); (case hi => exact xDK); (case ht => exact xTY); (case hz => exact rfl); (case he => (simp only [go_sem]; with_reducible rfl)); (case hc => exact xGS)) | ((with_reducible apply e_ln); (case hx => exact xDK); (case ht => exact xTY); (case hn => (first | (simp only [List.length_map, List.length_cons, List.length_nil]; with_reducible rfl) | rfl))) | ((with_reducible apply e_nt); (case hx => exact xDK); (case h => (first | (simp only [Bool.not_true, Bool.not_false]; with_reducible rfl) | rfl)))))) | (((with_reducible apply sg_nil); (case hn => exact rfl); (case hx => exact xDK); (case ht => exact xTY); intro β hβ)) | (((with_reducible apply sg_bx); (case hn => exact rfl); (case hv => exact xLT); (case hc => exact xGS); (case hk => exact rfl))) | (((with_reducible apply sg_al); (case hn => exact rfl); (case hz => exact xTY); (case hc => exact xGS); (case hk => exact rfl))) | (((with_reducible apply sg_st); (case hx => exact xLK); (case hv => exact xLT); (case hc => exact xGS); (case hb => exact rfl); (case ht => exact xTY); (case hz => exact rfl); (case hs => exact xGS))) | (((with_reducible apply sg_e); (case hc => (intros; simp)); (case hs => (simp only [go_sem, Nat.reduceBEq, Nat.reduceBNe, Nat.reduceLT, Nat.reduceGT, Int.reduceGT, Int.reduceMul, Int.reduceAdd, Int.reduceSub, Nat.reduceAdd, Nat.reduceMul, Nat.reduceLeDiff, Nat.reduceEqDiff, Nat.reduceSub, Int.reduceNeg, Int.reduceToNat, Int.reduceLT, Int.reduceLE, Int.reduceEq, Int.cast_ofNat_Int, decide_true, decide_false, Bool.not_true, Bool.not_false, Bool.and_self, reduceIte, reduceCtorEq]; with_reducible rfl)))))
   | ((with_reducible apply s_n); (case hw => exact xWF); (case hd => exact rfl); (case hn => exact rfl))
   | ((with_reducible apply qs_ct); (case hc => exact xLK); (case he => exact xHB))
   | ((with_reducible apply qs_cf); (case hc => exact xLK); (case he => exact xHB))
   | ((with_reducible apply qs_cond); (case hc => exact xLK); (case hu => exact xUK); all_goals (intro hb))
   | ((with_reducible apply s_if); (case hg => exact rfl); (case hd => exact rfl); (case he => exact rfl); (case hu => exact xUK); all_goals (intro hb))
   | ((first | apply post_r | apply post_a); (case h1 => first | exact r1_t rfl rfl | (simp only [go_sem, Nat.reduceBEq, Nat.reduceBNe, Nat.reduceLT, Nat.reduceGT, Int.reduceGT, Int.reduceMul, Int.reduceAdd, Int.reduceSub, Nat.reduceAdd, Nat.reduceMul, Nat.reduceLeDiff, Nat.reduceEqDiff, Nat.reduceSub, Int.reduceNeg, Int.reduceToNat, Int.reduceLT, Int.reduceLE, Int.reduceEq, Int.cast_ofNat_Int, decide_true, decide_false, Bool.not_true, Bool.not_false, Bool.and_self, reduceIte, reduceCtorEq]; with_reducible rfl)); (case he => simp))
   | (refine hK _ ?_; clear hK)
   | (clear hK; refine hK _ ?_; clear hK)
   | (clear hK; clear hK; refine hK _ ?_; clear hK)
   | (clear hK; clear hK; clear hK; refine hK _ ?_; clear hK)
   | (clear hK; clear hK; clear hK; clear hK; refine hK _ ?_; clear hK)
   | fail
  all_goals (repeat (clear hK))
  all_goals first | done | (simp_all [digitF]; done) | grind [digitF]

set_option maxHeartbeats 4000000 in
theorem c_refDigit (r : Int) : FC Try.prog 22 [.int .i32 r] (.v (.bool (digitF r))) := by
  refine fc_of_body (nt := 9) (rs := [.tmp 2]) (ts := [(0, _)]) Try.func22 rfl rfl rfl rfl (by decide) (Nat.le_of_ble_eq_true rfl) ?_
  repeat' first
   | with_reducible first | refine thenQ_n ?_ | refine thenQ_r ?_ | refine thenQ_e ?_ | refine blockQ_n ?_ | refine blockQ_r ?_ | refine blockQ_e ?_ | refine tri_seq fun K hK => ?_ | refine tri_skip ?_ | refine tri_ret ?_ | refine tri_exit ?_ | refine tri_block ?_ | refine tri_region ?_ | refine sq_nil ?_
   | refine blockQ_o ?_ (by rfl)
   | ((with_reducible apply s_w); (case hw => exact xWT); first | ((with_reducible apply sg_q); (case hd => exact rfl); (case hn => exact rfl); (case he => (first | exact xE0 | ((with_reducible apply e_bi); (case hx => exact xDK); (case hy => exact xDK); (case hs => exact rfl); (case h => (simp only [binI, Int.reduceAdd, Int.reduceSub, Int.reduceMul, Int.reduceLT, Int.reduceLE, Int.reduceGT, Int.reduceEq, Int.reduceNeg, decide_true, decide_false, Bool.not_true, Bool.not_false]; with_reducible rfl))) | ((with_reducible apply e_ix); (case hx => exact xDK); (case hi => exact xDK); (case ht => exact xTY); (case hz => exact rfl); (case he => (simp only [go_sem]; with_reducible rfl)); (case hc => exact xGS)) | ((with_reducible apply e_ln); (case hx => exact xDK); (case ht => exact xTY); (case hn => (first | (simp only [List.length_map, List.length_cons, List.length_nil]; with_reducible rfl) | rfl))) | ((with_reducible apply e_nt); (case hx => exact xDK); (case h => (first | (simp only [Bool.not_true, Bool.not_false]; with_reducible rfl) | rfl)))))) | (((with_reducible apply sg_nil); (case hn => exact rfl); (case hx => exact xDK); (case ht => exact xTY); intro β hβ)) | (((with_reducible apply sg_bx); (case hn => exact rfl); (case hv => exact xLT); (case hc => exact xGS); (case hk => exact rfl))) | (((with_reducible apply sg_al); (case hn => exact rfl); (case hz => exact xTY); (case hc => exact xGS); (case hk => exact rfl))) | (((with_reducible apply sg_st); (case hx => exact xLK); (case hv => exact xLT); (case hc => exact xGS); (case hb => exact rfl); (case ht => exact xTY); (case hz => exact rfl); (case hs => exact xGS))) | (((with_reducible apply sg_e); (case hc => (intros; simp)); (case hs => (simp only [go_sem, Nat.reduceBEq, Nat.reduceBNe, Nat.reduceLT, Nat.reduceGT, Int.reduceGT, Int.reduceMul, Int.reduceAdd, Int.reduceSub, Nat.reduceAdd, Nat.reduceMul, Nat.reduceLeDiff, Nat.reduceEqDiff, Nat.reduceSub, Int.reduceNeg, Int.reduceToNat, Int.reduceLT, Int.reduceLE, Int.reduceEq, Int.cast_ofNat_Int, decide_true, decide_false, Bool.not_true, Bool.not_false, Bool.and_self, reduceIte, reduceCtorEq]; with_reducible rfl)))))
   | ((with_reducible apply s_n); (case hw => exact xWF); (case hd => exact rfl); (case hn => exact rfl))
   | ((with_reducible apply qs_ct); (case hc => exact xLK); (case he => exact xHB))
   | ((with_reducible apply qs_cf); (case hc => exact xLK); (case he => exact xHB))
   | ((with_reducible apply qs_cond); (case hc => exact xLK); (case hu => exact xUK); all_goals (intro hb))
   | ((with_reducible apply s_if); (case hg => exact rfl); (case hd => exact rfl); (case he => exact rfl); (case hu => exact xUK); all_goals (intro hb))
   | ((first | apply post_r | apply post_a); (case h1 => first | exact r1_t rfl rfl | (simp only [go_sem, Nat.reduceBEq, Nat.reduceBNe, Nat.reduceLT, Nat.reduceGT, Int.reduceGT, Int.reduceMul, Int.reduceAdd, Int.reduceSub, Nat.reduceAdd, Nat.reduceMul, Nat.reduceLeDiff, Nat.reduceEqDiff, Nat.reduceSub, Int.reduceNeg, Int.reduceToNat, Int.reduceLT, Int.reduceLE, Int.reduceEq, Int.cast_ofNat_Int, decide_true, decide_false, Bool.not_true, Bool.not_false, Bool.and_self, reduceIte, reduceCtorEq]; with_reducible rfl)); (case he => simp))
   | (refine hK _ ?_; clear hK)
   | (clear hK; refine hK _ ?_; clear hK)
   | (clear hK; clear hK; refine hK _ ?_; clear hK)
   | (clear hK; clear hK; clear hK; refine hK _ ?_; clear hK)
   | (clear hK; clear hK; clear hK; clear hK; refine hK _ ?_; clear hK)
   | fail
  all_goals (repeat (clear hK))
  all_goals first | done | (simp_all [digitF]; done) | grind [digitF]

set_option maxHeartbeats 4000000 in
theorem c_refOne (r : Int) : FC Try.prog 23 [.int .i32 r] (.v (.bool (signF r))) := by
  refine fc_of_body (nt := 33) (rs := [.tmp 2]) (ts := [(0, _)]) Try.func23 rfl rfl rfl rfl (by decide) (Nat.le_of_ble_eq_true rfl) ?_
  repeat' first
   | with_reducible first | refine thenQ_n ?_ | refine thenQ_r ?_ | refine thenQ_e ?_ | refine blockQ_n ?_ | refine blockQ_r ?_ | refine blockQ_e ?_ | refine tri_seq fun K hK => ?_ | refine tri_skip ?_ | refine tri_ret ?_ | refine tri_exit ?_ | refine tri_block ?_ | refine tri_region ?_ | refine sq_nil ?_
   | refine blockQ_o ?_ (by rfl)
   | ((with_reducible apply s_w); (case hw => exact xWT); first | ((with_reducible apply sg_q); (case hd => exact rfl); (case hn => exact rfl); (case he => (first | exact xE0 | ((with_reducible apply e_bi); (case hx => exact xDK); (case hy => exact xDK); (case hs => exact rfl); (case h => (simp only [binI, Int.reduceAdd, Int.reduceSub, Int.reduceMul, Int.reduceLT, Int.reduceLE, Int.reduceGT, Int.reduceEq, Int.reduceNeg, decide_true, decide_false, Bool.not_true, Bool.not_false]; with_reducible rfl))) | ((with_reducible apply e_ix); (case hx => exact xDK); (case hi => exact xDK); (case ht => exact xTY); (case hz => exact rfl); (case he => (simp only [go_sem]; with_reducible rfl)); (case hc => exact xGS)) | ((with_reducible apply e_ln); (case hx => exact xDK); (case ht => exact xTY); (case hn => (first | (simp only [List.length_map, List.length_cons, List.length_nil]; with_reducible rfl) | rfl))) | ((with_reducible apply e_nt); (case hx => exact xDK); (case h => (first | (simp only [Bool.not_true, Bool.not_false]; with_reducible rfl) | rfl)))))) | (((with_reducible apply sg_nil); (case hn => exact rfl); (case hx => exact xDK); (case ht => exact xTY); intro β hβ)) | (((with_reducible apply sg_bx); (case hn => exact rfl); (case hv => exact xLT); (case hc => exact xGS); (case hk => exact rfl))) | (((with_reducible apply sg_al); (case hn => exact rfl); (case hz => exact xTY); (case hc => exact xGS); (case hk => exact rfl))) | (((with_reducible apply sg_st); (case hx => exact xLK); (case hv => exact xLT); (case hc => exact xGS); (case hb => exact rfl); (case ht => exact xTY); (case hz => exact rfl); (case hs => exact xGS))) | (((with_reducible apply sg_e); (case hc => (intros; simp)); (case hs => (simp only [go_sem, Nat.reduceBEq, Nat.reduceBNe, Nat.reduceLT, Nat.reduceGT, Int.reduceGT, Int.reduceMul, Int.reduceAdd, Int.reduceSub, Nat.reduceAdd, Nat.reduceMul, Nat.reduceLeDiff, Nat.reduceEqDiff, Nat.reduceSub, Int.reduceNeg, Int.reduceToNat, Int.reduceLT, Int.reduceLE, Int.reduceEq, Int.cast_ofNat_Int, decide_true, decide_false, Bool.not_true, Bool.not_false, Bool.and_self, reduceIte, reduceCtorEq]; with_reducible rfl)))))
   | ((with_reducible apply s_n); (case hw => exact xWF); (case hd => exact rfl); (case hn => exact rfl))
   | ((with_reducible apply qs_ct); (case hc => exact xLK); (case he => exact xHB))
   | ((with_reducible apply qs_cf); (case hc => exact xLK); (case he => exact xHB))
   | ((with_reducible apply qs_cond); (case hc => exact xLK); (case hu => exact xUK); all_goals (intro hb))
   | ((with_reducible apply s_if); (case hg => exact rfl); (case hd => exact rfl); (case he => exact rfl); (case hu => exact xUK); all_goals (intro hb))
   | ((first | apply post_r | apply post_a); (case h1 => first | exact r1_t rfl rfl | (simp only [go_sem, Nat.reduceBEq, Nat.reduceBNe, Nat.reduceLT, Nat.reduceGT, Int.reduceGT, Int.reduceMul, Int.reduceAdd, Int.reduceSub, Nat.reduceAdd, Nat.reduceMul, Nat.reduceLeDiff, Nat.reduceEqDiff, Nat.reduceSub, Int.reduceNeg, Int.reduceToNat, Int.reduceLT, Int.reduceLE, Int.reduceEq, Int.cast_ofNat_Int, decide_true, decide_false, Bool.not_true, Bool.not_false, Bool.and_self, reduceIte, reduceCtorEq]; with_reducible rfl)); (case he => simp))
   | (refine hK _ ?_; clear hK)
   | (clear hK; refine hK _ ?_; clear hK)
   | (clear hK; clear hK; refine hK _ ?_; clear hK)
   | (clear hK; clear hK; clear hK; refine hK _ ?_; clear hK)
   | (clear hK; clear hK; clear hK; clear hK; refine hK _ ?_; clear hK)
   | fail
  all_goals (repeat (clear hK))
  all_goals first | done | (simp_all [signF]; done) | grind [signF]

def signsS : List UInt8 := [40, 41, 44, 46, 61, 60, 62, 45]
theorem decSigns : ∀ p : Fin 8, (decB signsS p.1).2 = 1 ∧ (decB signsS p.1).1 ≠ 65533 := by decide +kernel
theorem c_crA (s : List UInt8) (r : Int) (h0 : 0 ≤ r) (h1 : r < 128) : FC Try.prog 21 [.str s, .int .i32 r] (.v (.bool (decide (0 ≤ Lib.indexByte s r.toNat.toUInt8)))) := by
  refine ⟨enter_of Try.func21 rfl rfl, fun M w vals hM hT hn hR => ?_⟩
  have hv : vals.size = 2 := by simpa using hn.symm
  obtain ⟨u, y, rfl⟩ : ∃ u y, vals = #[u, y] := by
    rcases vals with ⟨l⟩
    match l, hv with
    | [u, y], _ => exact ⟨u, y, rfl⟩
  have e0 := str_inv (hR 0 _ u rfl rfl)
  have e1 := int_inv (hR 1 _ y rfl rfl)
  subst e0; subst e1
  refine (Any.strings_ContainsRune_ascii laysCr ⟨s.toArray⟩ r w h0 h1).mono fun e w' ⟨he, hw⟩ => ?_
  subst hw
  exact ⟨_, M, he, RowKit.Below.refl _ _, MLe.refl _, fun _ _ _ h => .inl h, hM, .v _ _ (.bool _)⟩

set_option maxHeartbeats 4000000 in
theorem c_irE  : FC Try.prog 27 [.str signsS, .int .i32 65533] (.v (.int .i64 (-1))) := by
  refine fc_of_body (nt := 187) (rs := [.tmp 4]) (ts := [(0, _), (1, _)]) Try.func27 rfl rfl rfl rfl (by decide) (Nat.le_of_ble_eq_true rfl) ?_
  repeat' first
   | with_reducible first | refine thenQ_n ?_ | refine thenQ_r ?_ | refine thenQ_e ?_ | refine blockQ_n ?_ | refine blockQ_r ?_ | refine blockQ_e ?_ | refine tri_seq fun K hK => ?_ | refine tri_skip ?_ | refine tri_ret ?_ | refine tri_exit ?_ | refine tri_block ?_ | refine tri_region ?_ | refine sq_nil ?_
   | refine blockQ_o ?_ (by rfl)
   | (with_reducible refine dr (id := 6) [0, 1, 2, 3, 4, 5, 6] [] ?_)
   | (with_reducible refine dr (id := 7) [0, 1, 2, 3, 4, 5, 6, 7] [8] ?_)
   | (with_reducible refine dr (id := 14) [0, 1, 2, 3, 4, 5, 6, 7, 8, 9, 10] [] ?_)
   | (with_reducible refine dr (id := 31) [0, 1, 2, 3, 4, 5, 6, 7, 8, 9, 10] [] ?_)
   | ((first | with_reducible apply s_w | ((with_reducible apply d_w); (case ho => exact rfl))); (case hw => exact xWT); first | ((with_reducible first | apply sg_q | apply dg_q); (case hd => exact rfl); (case hn => exact rfl); (case he => (first | exact xE0 | ((with_reducible apply e_bi); (case hx => exact xDK); (case hy => exact xDK); (case hs => exact rfl); (case h => (simp only [binI, Int.reduceAdd, Int.reduceSub, Int.reduceMul, Int.reduceLT, Int.reduceLE, Int.reduceGT, Int.reduceEq, Int.reduceNeg, decide_true, decide_false, Bool.not_true, Bool.not_false]; with_reducible rfl))) | ((with_reducible apply e_ix); (case hx => exact xDK); (case hi => exact xDK); (case ht => exact xTY); (case hz => exact rfl); (case he => (simp only [go_sem]; with_reducible rfl)); (case hc => exact xGS)) | ((with_reducible apply e_ln); (case hx => exact xDK); (case ht => exact xTY); (case hn => (first | (simp only [List.length_map, List.length_cons, List.length_nil]; with_reducible rfl) | rfl))) | ((with_reducible apply e_nt); (case hx => exact xDK); (case h => (first | (simp only [Bool.not_true, Bool.not_false]; with_reducible rfl) | rfl)))))) | (((with_reducible apply sg_nil); (case hn => exact rfl); (case hx => exact xDK); (case ht => exact xTY); intro β hβ)) | (((with_reducible apply sg_rg); (case hn => exact rfl); (case h9 => exact rfl); (case hx => exact xDK); (case ht => exact xTS); (case h1 => exact xGS); (case h2 => exact xGS); (case h3 => exact xGS))) | (((with_reducible apply sg_bx); (case hn => exact rfl); (case hv => exact xLT); (case hc => exact xGS); (case hk => exact rfl))) | (((with_reducible apply sg_al); (case hn => exact rfl); (case hz => exact xTY); (case hc => exact xGS); (case hk => exact rfl))) | (((with_reducible apply sg_st); (case hx => exact xLK); (case hv => exact xLT); (case hc => exact xGS); (case hb => exact rfl); (case ht => exact xTY); (case hz => exact rfl); (case hs => exact xGS))) | (((with_reducible apply dg_al); (case hn => exact rfl); (case hz => exact xTY); (case hc => exact xGS))) | (((first | ((with_reducible apply sg_e); (case hc => (intros; simp))) | ((with_reducible apply dg_e); (case hd => exact rfl); (case hn => exact rfl))); (case hs => (simp only [go_sem, Nat.reduceBEq, Nat.reduceBNe, Nat.reduceLT, Nat.reduceGT, Int.reduceGT, Int.reduceMul, Int.reduceAdd, Int.reduceSub, Nat.reduceAdd, Nat.reduceMul, Nat.reduceLeDiff, Nat.reduceEqDiff, Nat.reduceSub, Int.reduceNeg, Int.reduceToNat, Int.reduceLT, Int.reduceLE, Int.reduceEq, Int.cast_ofNat_Int, decide_true, decide_false, Bool.not_true, Bool.not_false, Bool.and_self, reduceIte, reduceCtorEq]; with_reducible rfl)))))
   | ((first | with_reducible apply s_n | ((with_reducible apply d_n); (case ho => exact rfl))); (case hw => exact xWF); (case hd => exact rfl); (case hn => exact rfl))
   | ((with_reducible refine dq_nil ?_); apply d_end; (case hd => kernel_rfl); (case ht => exact xGS); (case hb => exact xGS); (case hk => exact xGS))
   | ((with_reducible apply qs_ct); (case hc => exact xLK); (case he => exact xHB))
   | ((with_reducible apply qs_cf); (case hc => exact xLK); (case he => exact xHB))
   | ((with_reducible apply qs_cond); (case hc => exact xLK); (case hu => exact xUK); all_goals (intro hb))
   | ((first | with_reducible apply s_if | ((with_reducible apply d_if); (case ho => exact rfl))); (case hg => exact rfl); (case hd => exact rfl); (case he => exact rfl); (case hu => exact xUK); all_goals (intro hb))
   | ((first | apply post_r | apply post_a); (case h1 => first | exact r1_t rfl rfl | (simp only [go_sem, Nat.reduceBEq, Nat.reduceBNe, Nat.reduceLT, Nat.reduceGT, Int.reduceGT, Int.reduceMul, Int.reduceAdd, Int.reduceSub, Nat.reduceAdd, Nat.reduceMul, Nat.reduceLeDiff, Nat.reduceEqDiff, Nat.reduceSub, Int.reduceNeg, Int.reduceToNat, Int.reduceLT, Int.reduceLE, Int.reduceEq, Int.cast_ofNat_Int, decide_true, decide_false, Bool.not_true, Bool.not_false, Bool.and_self, reduceIte, reduceCtorEq]; with_reducible rfl)); (case he => simp))
   | (refine hK _ ?_; clear hK)
   | (clear hK; refine hK _ ?_; clear hK)
   | (clear hK; clear hK; refine hK _ ?_; clear hK)
   | (clear hK; clear hK; clear hK; refine hK _ ?_; clear hK)
   | (clear hK; clear hK; clear hK; clear hK; refine hK _ ?_; clear hK)
   | fail
  refine tri_for (fun p : Nat => ⟨187, [(175, .it 175 signsS p), (1, .v (.int .i32 65533)), (0, .v (.str signsS))], [], [175]⟩) (fun p => p ≤ 8) (fun p => 8 - p) 0 ?_ (Nat.zero_le _) ?_
  · exact le_of rfl (by simp [LeT, get]) (by simp [LeT, get]) (by simp [LeK, memK])
  intro p hp
  by_cases hlt : p < 8
  · have hp1 : p < signsS.length := hlt
    have hd := decSigns ⟨p, hlt⟩
    simp only at hd
    have hq : decide (((decB signsS p).1 : Int) = 65533) = false := by simp; omega
    have hd1 := hd.1
    repeat' first
     | with_reducible first | refine thenQ_n ?_ | refine thenQ_r ?_ | refine thenQ_e ?_ | refine blockQ_n ?_ | refine blockQ_r ?_ | refine blockQ_e ?_ | refine tri_seq fun K hK => ?_ | refine tri_skip ?_ | refine tri_ret ?_ | refine tri_exit ?_ | refine tri_block ?_ | refine tri_region ?_ | refine sq_nil ?_
     | refine blockQ_o ?_ (by rfl)
     | (with_reducible refine dr (id := 6) [0, 1, 2, 3, 4, 5, 6] [] ?_)
     | (with_reducible refine dr (id := 7) [0, 1, 2, 3, 4, 5, 6, 7] [8] ?_)
     | (with_reducible refine dr (id := 14) [0, 1, 2, 3, 4, 5, 6, 7, 8, 9, 10] [] ?_)
     | (with_reducible refine dr (id := 31) [0, 1, 2, 3, 4, 5, 6, 7, 8, 9, 10] [] ?_)
     | ((first | with_reducible apply s_w | ((with_reducible apply d_w); (case ho => exact rfl))); (case hw => exact xWT); first | ((with_reducible first | apply sg_q | apply dg_q); (case hd => exact rfl); (case hn => exact rfl); (case he => (first | exact xE0 | ((with_reducible apply e_bi); (case hx => exact xDK); (case hy => exact xDK); (case hs => exact rfl); (case h => (simp only [binI, Int.reduceAdd, Int.reduceSub, Int.reduceMul, Int.reduceLT, Int.reduceLE, Int.reduceGT, Int.reduceEq, Int.reduceNeg, decide_true, decide_false, Bool.not_true, Bool.not_false, hq]; with_reducible rfl))) | ((with_reducible apply e_ix); (case hx => exact xDK); (case hi => exact xDK); (case ht => exact xTY); (case hz => exact rfl); (case he => (simp only [hq]; with_reducible rfl)); (case hc => exact xGS)) | ((with_reducible apply e_ln); (case hx => exact xDK); (case ht => exact xTY); (case hn => (first | (simp only [List.length_map, List.length_cons, List.length_nil, hq]; with_reducible rfl) | rfl))) | ((with_reducible apply e_nt); (case hx => exact xDK); (case h => (first | (simp only [Bool.not_true, Bool.not_false, hq]; with_reducible rfl) | rfl)))))) | (((with_reducible apply sg_nil); (case hn => exact rfl); (case hx => exact xDK); (case ht => exact xTY); intro β hβ)) | (((with_reducible apply sg_nx); (case hn => exact rfl); (case hx => exact rfl); (case hs => exact rfl); (case h9 => exact rfl); (case hp => exact hp1); (case h1 => exact xGS); (case h2 => exact xGS); (case h3 => exact xGS))) | (((with_reducible apply sg_bx); (case hn => exact rfl); (case hv => exact xLT); (case hc => exact xGS); (case hk => exact rfl))) | (((with_reducible apply sg_al); (case hn => exact rfl); (case hz => exact xTY); (case hc => exact xGS); (case hk => exact rfl))) | (((with_reducible apply sg_st); (case hx => exact xLK); (case hv => exact xLT); (case hc => exact xGS); (case hb => exact rfl); (case ht => exact xTY); (case hz => exact rfl); (case hs => exact xGS))) | (((with_reducible apply dg_al); (case hn => exact rfl); (case hz => exact xTY); (case hc => exact xGS))) | (((first | ((with_reducible apply sg_e); (case hc => (intros; simp))) | ((with_reducible apply dg_e); (case hd => exact rfl); (case hn => exact rfl))); (case hs => (simp only [go_sem, Nat.reduceBEq, Nat.reduceBNe, Nat.reduceLT, Nat.reduceGT, Int.reduceGT, Int.reduceMul, Int.reduceAdd, Int.reduceSub, Nat.reduceAdd, Nat.reduceMul, Nat.reduceLeDiff, Nat.reduceEqDiff, Nat.reduceSub, Int.reduceNeg, Int.reduceToNat, Int.reduceLT, Int.reduceLE, Int.reduceEq, Int.cast_ofNat_Int, decide_true, decide_false, Bool.not_true, Bool.not_false, Bool.and_self, reduceIte, reduceCtorEq, hq]; with_reducible rfl)))))
     | ((first | with_reducible apply s_n | ((with_reducible apply d_n); (case ho => exact rfl))); (case hw => exact xWF); (case hd => exact rfl); (case hn => exact rfl))
     | ((with_reducible refine dq_nil ?_); apply d_end; (case hd => kernel_rfl); (case ht => exact xGS); (case hb => exact xGS); (case hk => exact xGS))
     | ((with_reducible apply qs_ct); (case hc => exact xLK); (case he => exact xHB))
     | ((with_reducible apply qs_cf); (case hc => exact xLK); (case he => exact xHB))
     | ((with_reducible apply qs_cond); (case hc => exact xLK); (case hu => exact xUK); all_goals (intro hb))
     | ((first | with_reducible apply s_if | ((with_reducible apply d_if); (case ho => exact rfl))); (case hg => exact rfl); (case hd => exact rfl); (case he => exact rfl); (case hu => exact xUK); all_goals (intro hb))
     | ((first | apply post_r | apply post_a); (case h1 => first | exact r1_t rfl rfl | (simp only [go_sem, Nat.reduceBEq, Nat.reduceBNe, Nat.reduceLT, Nat.reduceGT, Int.reduceGT, Int.reduceMul, Int.reduceAdd, Int.reduceSub, Nat.reduceAdd, Nat.reduceMul, Nat.reduceLeDiff, Nat.reduceEqDiff, Nat.reduceSub, Int.reduceNeg, Int.reduceToNat, Int.reduceLT, Int.reduceLE, Int.reduceEq, Int.cast_ofNat_Int, decide_true, decide_false, Bool.not_true, Bool.not_false, Bool.and_self, reduceIte, reduceCtorEq, hq]; with_reducible rfl)); (case he => simp))
     | (refine hK _ ?_; clear hK)
     | (clear hK; refine hK _ ?_; clear hK)
     | (clear hK; clear hK; refine hK _ ?_; clear hK)
     | (clear hK; clear hK; clear hK; refine hK _ ?_; clear hK)
     | (clear hK; clear hK; clear hK; clear hK; refine hK _ ?_; clear hK)
     | fail
    all_goals (repeat (clear hK))
    exact ⟨p + 1, hlt, by omega, le_of rfl (by simp [LeT, get, hd1]) (by simp [LeT, get]) (by simp [LeK, memK])⟩
  · have hp2 : ¬ p < signsS.length := by show ¬ p < 8; exact hlt
    repeat' first
     | with_reducible first | refine thenQ_n ?_ | refine thenQ_r ?_ | refine thenQ_e ?_ | refine blockQ_n ?_ | refine blockQ_r ?_ | refine blockQ_e ?_ | refine tri_seq fun K hK => ?_ | refine tri_skip ?_ | refine tri_ret ?_ | refine tri_exit ?_ | refine tri_block ?_ | refine tri_region ?_ | refine sq_nil ?_
     | refine blockQ_o ?_ (by rfl)
     | (with_reducible refine dr (id := 6) [0, 1, 2, 3, 4, 5, 6] [] ?_)
     | (with_reducible refine dr (id := 7) [0, 1, 2, 3, 4, 5, 6, 7] [8] ?_)
     | (with_reducible refine dr (id := 14) [0, 1, 2, 3, 4, 5, 6, 7, 8, 9, 10] [] ?_)
     | (with_reducible refine dr (id := 31) [0, 1, 2, 3, 4, 5, 6, 7, 8, 9, 10] [] ?_)
     | ((first | with_reducible apply s_w | ((with_reducible apply d_w); (case ho => exact rfl))); (case hw => exact xWT); first | ((with_reducible first | apply sg_q | apply dg_q); (case hd => exact rfl); (case hn => exact rfl); (case he => (first | exact xE0 | ((with_reducible apply e_bi); (case hx => exact xDK); (case hy => exact xDK); (case hs => exact rfl); (case h => (simp only [binI, Int.reduceAdd, Int.reduceSub, Int.reduceMul, Int.reduceLT, Int.reduceLE, Int.reduceGT, Int.reduceEq, Int.reduceNeg, decide_true, decide_false, Bool.not_true, Bool.not_false]; with_reducible rfl))) | ((with_reducible apply e_ix); (case hx => exact xDK); (case hi => exact xDK); (case ht => exact xTY); (case hz => exact rfl); (case he => (simp only [go_sem]; with_reducible rfl)); (case hc => exact xGS)) | ((with_reducible apply e_ln); (case hx => exact xDK); (case ht => exact xTY); (case hn => (first | (simp only [List.length_map, List.length_cons, List.length_nil]; with_reducible rfl) | rfl))) | ((with_reducible apply e_nt); (case hx => exact xDK); (case h => (first | (simp only [Bool.not_true, Bool.not_false]; with_reducible rfl) | rfl)))))) | (((with_reducible apply sg_nil); (case hn => exact rfl); (case hx => exact xDK); (case ht => exact xTY); intro β hβ)) | (((with_reducible apply sg_nxe); (case hn => exact rfl); (case hx => exact rfl); (case hs => exact rfl); (case h9 => exact rfl); (case hp => exact hp2))) | (((with_reducible apply sg_bx); (case hn => exact rfl); (case hv => exact xLT); (case hc => exact xGS); (case hk => exact rfl))) | (((with_reducible apply sg_al); (case hn => exact rfl); (case hz => exact xTY); (case hc => exact xGS); (case hk => exact rfl))) | (((with_reducible apply sg_st); (case hx => exact xLK); (case hv => exact xLT); (case hc => exact xGS); (case hb => exact rfl); (case ht => exact xTY); (case hz => exact rfl); (case hs => exact xGS))) | (((with_reducible apply dg_al); (case hn => exact rfl); (case hz => exact xTY); (case hc => exact xGS))) | (((first | ((with_reducible apply sg_e); (case hc => (intros; simp))) | ((with_reducible apply dg_e); (case hd => exact rfl); (case hn => exact rfl))); (case hs => (simp only [go_sem, Nat.reduceBEq, Nat.reduceBNe, Nat.reduceLT, Nat.reduceGT, Int.reduceGT, Int.reduceMul, Int.reduceAdd, Int.reduceSub, Nat.reduceAdd, Nat.reduceMul, Nat.reduceLeDiff, Nat.reduceEqDiff, Nat.reduceSub, Int.reduceNeg, Int.reduceToNat, Int.reduceLT, Int.reduceLE, Int.reduceEq, Int.cast_ofNat_Int, decide_true, decide_false, Bool.not_true, Bool.not_false, Bool.and_self, reduceIte, reduceCtorEq]; with_reducible rfl)))))
     | ((first | with_reducible apply s_n | ((with_reducible apply d_n); (case ho => exact rfl))); (case hw => exact xWF); (case hd => exact rfl); (case hn => exact rfl))
     | ((with_reducible refine dq_nil ?_); apply d_end; (case hd => kernel_rfl); (case ht => exact xGS); (case hb => exact xGS); (case hk => exact xGS))
     | ((with_reducible apply qs_ct); (case hc => exact xLK); (case he => exact xHB))
     | ((with_reducible apply qs_cf); (case hc => exact xLK); (case he => exact xHB))
     | ((with_reducible apply qs_cond); (case hc => exact xLK); (case hu => exact xUK); all_goals (intro hb))
     | ((first | with_reducible apply s_if | ((with_reducible apply d_if); (case ho => exact rfl))); (case hg => exact rfl); (case hd => exact rfl); (case he => exact rfl); (case hu => exact xUK); all_goals (intro hb))
     | ((first | apply post_r | apply post_a); (case h1 => first | exact r1_t rfl rfl | (simp only [go_sem, Nat.reduceBEq, Nat.reduceBNe, Nat.reduceLT, Nat.reduceGT, Int.reduceGT, Int.reduceMul, Int.reduceAdd, Int.reduceSub, Nat.reduceAdd, Nat.reduceMul, Nat.reduceLeDiff, Nat.reduceEqDiff, Nat.reduceSub, Int.reduceNeg, Int.reduceToNat, Int.reduceLT, Int.reduceLE, Int.reduceEq, Int.cast_ofNat_Int, decide_true, decide_false, Bool.not_true, Bool.not_false, Bool.and_self, reduceIte, reduceCtorEq]; with_reducible rfl)); (case he => simp))
     | (refine hK _ ?_; clear hK)
     | (clear hK; refine hK _ ?_; clear hK)
     | (clear hK; clear hK; refine hK _ ?_; clear hK)
     | (clear hK; clear hK; clear hK; refine hK _ ?_; clear hK)
     | (clear hK; clear hK; clear hK; clear hK; refine hK _ ?_; clear hK)
     | fail
    all_goals (repeat (clear hK))
    all_goals rfl

end Go.Proofs.Ytenigafbbdjagaa.AL
