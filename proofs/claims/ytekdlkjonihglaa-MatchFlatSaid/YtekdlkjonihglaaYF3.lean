/- Contracts: the reference's logic, sets. -/
import Derived.Test.YtekdlkjonihglaaYF2
namespace Go.Proofs.Ytekdlkjonihglaa.AL
open Go
set_option linter.unusedVariables false
set_option linter.unusedSimpArgs false
set_option maxRecDepth 4000
def threeF (t : Int) : Int := if t = 0 ∨ t = 2 then t else 1
def minF (l : List Int) : Int := l.foldl (fun a x => if threeF x < a then threeF x else a) 2
def maxF (l : List Int) : Int := l.foldl (fun a x => if threeF x > a then threeF x else a) 0
theorem c_threeF (t : Int) : FC Try.prog 93 [.int .i64 t] (.v (.int .i64 (threeF t))) := c_three t
theorem not_three (t : Int) : IntKind.i64.wrap (2 - threeF t) = 2 - threeF t := wi (by unfold threeF; split <;> omega)

set_option maxHeartbeats 4000000 in
theorem c_refNot (t : Int) : FC Try.prog 92 [.int .i64 t] (.v (.int .i64 (2 - threeF t))) := by
  refine fc_of_body (nt := 6) (rs := [.tmp 2]) (ts := [(0, _)]) Try.func92 rfl rfl rfl rfl (by decide) (Nat.le_of_ble_eq_true rfl) ?_
  repeat' first
   | with_reducible first | refine thenQ_n ?_ | refine thenQ_r ?_ | refine thenQ_e ?_ | refine blockQ_n ?_ | refine blockQ_r ?_ | refine blockQ_e ?_ | refine tri_seq fun K hK => ?_ | refine tri_skip ?_ | refine tri_ret ?_ | refine tri_exit ?_ | refine tri_block ?_ | refine tri_region ?_ | refine sq_nil ?_
   | refine blockQ_o ?_ (by rfl)
   | ((with_reducible apply s_w); (case hw => exact xWT); first | ((with_reducible apply sg_q); (case hd => exact rfl); (case hn => exact rfl); (case he => (first | exact xE0 | ((with_reducible apply e_bi); (case hx => exact xDK); (case hy => exact xDK); (case hs => exact rfl); (case h => (simp only [binI, Int.reduceAdd, Int.reduceSub, Int.reduceMul, Int.reduceLT, Int.reduceLE, Int.reduceGT, Int.reduceEq, Int.reduceNeg, decide_true, decide_false, Bool.not_true, Bool.not_false, not_three]; with_reducible rfl))) | ((with_reducible apply e_ix); (case hx => exact xDK); (case hi => exact xDK); (case ht => exact xTY); (case hz => exact rfl); (case he => (simp only [not_three]; with_reducible rfl)); (case hc => exact xGS)) | ((with_reducible apply e_ln); (case hx => exact xDK); (case ht => exact xTY); (case hn => (first | (simp only [List.length_map, List.length_cons, List.length_nil, not_three]; with_reducible rfl) | rfl))) | ((with_reducible apply e_nt); (case hx => exact xDK); (case h => (first | (simp only [Bool.not_true, Bool.not_false, not_three]; with_reducible rfl) | rfl)))))) | (((with_reducible apply sg_k); (case ha => exact xDA); (case hfc => ((try simp only [not_three]); first | exact c_threeF _ | (have hq_ := c_threeF _; simp only [Prd.e_eq, Trm.e, Val.e, Col.e, Tre.e_eq] at hq_; exact hq_))); (case hr => exact xRT))) | ((with_reducible apply sg_kv); (case hv => exact rfl); (case ha => exact xDA); (case hl => exact xLs); (case hfc => ((try simp only [not_three]); first | exact c_threeF _ | (have hq_ := c_threeF _; simp only [Prd.e_eq, Trm.e, Val.e, Col.e, Tre.e_eq] at hq_; exact hq_))); (case hr => exact xRT)) | (((with_reducible apply sg_bx); (case hn => exact rfl); (case hv => exact xLT); (case hc => exact xGS); (case hk => exact rfl))) | (((with_reducible apply sg_al); (case hn => exact rfl); (case hz => exact xTY); (case hc => exact xGS); (case hk => exact rfl))) | (((with_reducible apply sg_st); (case hx => exact xLK); (case hv => exact xLT); (case hc => exact xGS); (case hb => exact rfl); (case ht => exact xTY); (case hz => exact rfl); (case hs => exact xGS))) | (((with_reducible apply sg_e); (case hc => (intros; simp)); (case hs => (simp only [go_sem, Nat.reduceBEq, Nat.reduceBNe, Nat.reduceLT, Nat.reduceGT, Int.reduceGT, Int.reduceMul, Int.reduceAdd, Int.reduceSub, Nat.reduceAdd, Nat.reduceMul, Nat.reduceLeDiff, Nat.reduceEqDiff, Nat.reduceSub, Int.reduceNeg, Int.reduceToNat, Int.reduceLT, Int.reduceLE, Int.reduceEq, Int.cast_ofNat_Int, decide_true, decide_false, Bool.not_true, Bool.not_false, Bool.and_self, reduceIte, reduceCtorEq, not_three]; with_reducible rfl)))))
   | ((with_reducible apply s_n); (case hw => exact xWF); (case hd => exact rfl); (case hn => exact rfl))
   | ((with_reducible apply qs_ct); (case hc => exact xLK); (case he => exact xHB))
   | ((with_reducible apply qs_cf); (case hc => exact xLK); (case he => exact xHB))
   | ((with_reducible apply qs_cond); (case hc => exact xLK); (case hu => exact xUK); all_goals (intro hb))
   | ((with_reducible apply s_if); (case hg => exact rfl); (case hd => exact rfl); (case he => exact rfl); (case hu => exact xUK); all_goals (intro hb))
   | ((first | apply post_r | apply post_a); (case h1 => first | exact r1_t rfl rfl | (simp only [go_sem, Nat.reduceBEq, Nat.reduceBNe, Nat.reduceLT, Nat.reduceGT, Int.reduceGT, Int.reduceMul, Int.reduceAdd, Int.reduceSub, Nat.reduceAdd, Nat.reduceMul, Nat.reduceLeDiff, Nat.reduceEqDiff, Nat.reduceSub, Int.reduceNeg, Int.reduceToNat, Int.reduceLT, Int.reduceLE, Int.reduceEq, Int.cast_ofNat_Int, decide_true, decide_false, Bool.not_true, Bool.not_false, Bool.and_self, reduceIte, reduceCtorEq, not_three]; with_reducible rfl)); (case he => simp))
   | (refine hK _ ?_; clear hK)
   | (clear hK; refine hK _ ?_; clear hK)
   | (clear hK; clear hK; refine hK _ ?_; clear hK)
   | (clear hK; clear hK; clear hK; refine hK _ ?_; clear hK)
   | (clear hK; clear hK; clear hK; clear hK; refine hK _ ?_; clear hK)
   | fail
  all_goals (repeat (clear hK))
  all_goals first | done | (simp_all; done) | grind

set_option maxHeartbeats 4000000 in
theorem c_refAnd (l : List Int) : FC Try.prog 70 [intsE l] (.v (.int .i64 (minF l))) := by
  refine fc_of_body (nt := 19) (rs := [.tmp 2]) (ts := [(0, _)]) Try.func70 rfl rfl rfl rfl (by decide) (Nat.le_of_ble_eq_true rfl) ?_
  repeat' first
   | with_reducible first | refine thenQ_n ?_ | refine thenQ_r ?_ | refine thenQ_e ?_ | refine blockQ_n ?_ | refine blockQ_r ?_ | refine blockQ_e ?_ | refine tri_seq fun K hK => ?_ | refine tri_skip ?_ | refine tri_ret ?_ | refine tri_exit ?_ | refine tri_block ?_ | refine tri_region ?_ | refine sq_nil ?_
   | refine blockQ_o ?_ (by rfl)
   | ((with_reducible apply s_w); (case hw => exact xWT); first | ((with_reducible apply sg_q); (case hd => exact rfl); (case hn => exact rfl); (case he => (first | exact xE0 | ((with_reducible apply e_bi); (case hx => exact xDK); (case hy => exact xDK); (case hs => exact rfl); (case h => (simp only [binI, Int.reduceAdd, Int.reduceSub, Int.reduceMul, Int.reduceLT, Int.reduceLE, Int.reduceGT, Int.reduceEq, Int.reduceNeg, decide_true, decide_false, Bool.not_true, Bool.not_false]; with_reducible rfl))) | ((with_reducible apply e_ix); (case hx => exact xDK); (case hi => exact xDK); (case ht => exact xTY); (case hz => exact rfl); (case he => (simp only [go_sem]; with_reducible rfl)); (case hc => exact xGS)) | ((with_reducible apply e_ln); (case hx => exact xDK); (case ht => exact xTY); (case hn => (first | (simp only [List.length_map, List.length_cons, List.length_nil]; with_reducible rfl) | rfl))) | ((with_reducible apply e_nt); (case hx => exact xDK); (case h => (first | (simp only [Bool.not_true, Bool.not_false]; with_reducible rfl) | rfl)))))) | (((with_reducible apply sg_bx); (case hn => exact rfl); (case hv => exact xLT); (case hc => exact xGS); (case hk => exact rfl))) | (((with_reducible apply sg_al); (case hn => exact rfl); (case hz => exact xTY); (case hc => exact xGS); (case hk => exact rfl))) | (((with_reducible apply sg_st); (case hx => exact xLK); (case hv => exact xLT); (case hc => exact xGS); (case hb => exact rfl); (case ht => exact xTY); (case hz => exact rfl); (case hs => exact xGS))) | (((with_reducible apply sg_e); (case hc => (intros; simp)); (case hs => (simp only [go_sem, Nat.reduceBEq, Nat.reduceBNe, Nat.reduceLT, Nat.reduceGT, Int.reduceGT, Int.reduceMul, Int.reduceAdd, Int.reduceSub, Nat.reduceAdd, Nat.reduceMul, Nat.reduceLeDiff, Nat.reduceEqDiff, Nat.reduceSub, Int.reduceNeg, Int.reduceToNat, Int.reduceLT, Int.reduceLE, Int.reduceEq, Int.cast_ofNat_Int, decide_true, decide_false, Bool.not_true, Bool.not_false, Bool.and_self, reduceIte, reduceCtorEq]; with_reducible rfl)))))
   | ((with_reducible apply s_n); (case hw => exact xWF); (case hd => exact rfl); (case hn => exact rfl))
   | ((with_reducible apply qs_ct); (case hc => exact xLK); (case he => exact xHB))
   | ((with_reducible apply qs_cf); (case hc => exact xLK); (case he => exact xHB))
   | ((with_reducible apply qs_cond); (case hc => exact xLK); (case hu => exact xUK); all_goals (intro hb))
   | ((with_reducible apply s_if); (case hg => exact rfl); (case hd => exact rfl); (case he => exact rfl); (case hu => exact xUK); all_goals (intro hb))
   | ((first | apply post_r | apply post_a); (case h1 => first | exact r1_t rfl rfl | (simp only [go_sem, Nat.reduceBEq, Nat.reduceBNe, Nat.reduceLT, Nat.reduceGT, Int.reduceGT, Int.reduceMul, Int.reduceAdd, Int.reduceSub, Nat.reduceAdd, Nat.reduceMul, Nat.reduceLeDiff, Nat.reduceEqDiff, Nat.reduceSub, Int.reduceNeg, Int.reduceToNat, Int.reduceLT, Int.reduceLE, Int.reduceEq, Int.cast_ofNat_Int, decide_true, decide_false, Bool.not_true, Bool.not_false, Bool.and_self, reduceIte, reduceCtorEq]; with_reducible rfl)); (case he => simp))
   | (refine hK _ ?_; clear hK)
   | (clear hK; refine hK _ ?_; clear hK)
   | (clear hK; clear hK; refine hK _ ?_; clear hK)
   | (clear hK; clear hK; clear hK; refine hK _ ?_; clear hK)
   | (clear hK; clear hK; clear hK; clear hK; refine hK _ ?_; clear hK)
   | fail
  refine tri_len 0 (sz := 1) (xs := l.map (.int .i64)) rfl fun hm => ?_
  rw [List.length_map] at hm
  refine tri_for (fun k : Nat => ⟨19, [(4, .v (.int .i64 (k : Int))), (3, .v (.int .i64 (minF (l.take k)))), (0, .v (intsE l))], [], []⟩) (fun k => k ≤ l.length ∧ (True)) (fun k => l.length - k) 0 ?_ ⟨Nat.zero_le _, trivial⟩ ?_
  · exact le_of rfl (by simp [LeT, get, minF]) (by simp [LeT, get]) (by simp [LeK, memK])
  intro k hk
  by_cases hlt : k < l.length
  · have hd : decide ((k : Int) < ((l.length : Nat) : Int)) = true := by simpa using hlt
    have hw := wrap_succ hlt hm
    repeat' first
     | with_reducible first | refine thenQ_n ?_ | refine thenQ_r ?_ | refine thenQ_e ?_ | refine blockQ_n ?_ | refine blockQ_r ?_ | refine blockQ_e ?_ | refine tri_seq fun K hK => ?_ | refine tri_skip ?_ | refine tri_ret ?_ | refine tri_exit ?_ | refine tri_block ?_ | refine tri_region ?_ | refine sq_nil ?_
     | refine blockQ_o ?_ (by rfl)
     | ((with_reducible apply s_w); (case hw => exact xWT); first | ((with_reducible apply sg_q); (case hd => exact rfl); (case hn => exact rfl); (case he => (first | exact xE0 | ((with_reducible apply e_bi); (case hx => exact xDK); (case hy => exact xDK); (case hs => exact rfl); (case h => (simp only [binI, Int.reduceAdd, Int.reduceSub, Int.reduceMul, Int.reduceLT, Int.reduceLE, Int.reduceGT, Int.reduceEq, Int.reduceNeg, decide_true, decide_false, Bool.not_true, Bool.not_false, List.length_map, hd, hw, ixA_map hlt]; with_reducible rfl))) | ((with_reducible apply e_ix); (case hx => exact xDK); (case hi => exact xDK); (case ht => exact xTY); (case hz => exact rfl); (case he => (simp only [List.length_map, hd, hw, ixA_map hlt]; with_reducible rfl)); (case hc => exact xGS)) | ((with_reducible apply e_ln); (case hx => exact xDK); (case ht => exact xTY); (case hn => (first | (simp only [List.length_map, List.length_cons, List.length_nil, List.length_map, hd, hw, ixA_map hlt]; with_reducible rfl) | rfl))) | ((with_reducible apply e_nt); (case hx => exact xDK); (case h => (first | (simp only [Bool.not_true, Bool.not_false, List.length_map, hd, hw, ixA_map hlt]; with_reducible rfl) | rfl)))))) | (((with_reducible apply sg_k); (case ha => exact xDA); (case hfc => ((try simp only [List.length_map, hd, hw, ixA_map hlt]); first | exact c_threeF _ | (have hq_ := c_threeF _; simp only [Prd.e_eq, Trm.e, Val.e, Col.e, Tre.e_eq] at hq_; exact hq_))); (case hr => exact xRT))) | ((with_reducible apply sg_kv); (case hv => exact rfl); (case ha => exact xDA); (case hl => exact xLs); (case hfc => ((try simp only [List.length_map, hd, hw, ixA_map hlt]); first | exact c_threeF _ | (have hq_ := c_threeF _; simp only [Prd.e_eq, Trm.e, Val.e, Col.e, Tre.e_eq] at hq_; exact hq_))); (case hr => exact xRT)) | (((with_reducible apply sg_bx); (case hn => exact rfl); (case hv => exact xLT); (case hc => exact xGS); (case hk => exact rfl))) | (((with_reducible apply sg_al); (case hn => exact rfl); (case hz => exact xTY); (case hc => exact xGS); (case hk => exact rfl))) | (((with_reducible apply sg_st); (case hx => exact xLK); (case hv => exact xLT); (case hc => exact xGS); (case hb => exact rfl); (case ht => exact xTY); (case hz => exact rfl); (case hs => exact xGS))) | (((with_reducible apply sg_e); (case hc => (intros; simp)); (case hs => (simp only [go_sem, Nat.reduceBEq, Nat.reduceBNe, Nat.reduceLT, Nat.reduceGT, Int.reduceGT, Int.reduceMul, Int.reduceAdd, Int.reduceSub, Nat.reduceAdd, Nat.reduceMul, Nat.reduceLeDiff, Nat.reduceEqDiff, Nat.reduceSub, Int.reduceNeg, Int.reduceToNat, Int.reduceLT, Int.reduceLE, Int.reduceEq, Int.cast_ofNat_Int, decide_true, decide_false, Bool.not_true, Bool.not_false, Bool.and_self, reduceIte, reduceCtorEq, List.length_map, hd, hw, ixA_map hlt]; with_reducible rfl)))))
     | ((with_reducible apply s_n); (case hw => exact xWF); (case hd => exact rfl); (case hn => exact rfl))
     | ((with_reducible apply qs_ct); (case hc => exact xLK); (case he => exact xHB))
     | ((with_reducible apply qs_cf); (case hc => exact xLK); (case he => exact xHB))
     | ((with_reducible apply qs_cond); (case hc => exact xLK); (case hu => exact xUK); all_goals (intro hb))
     | ((with_reducible apply s_if); (case hg => exact rfl); (case hd => exact rfl); (case he => exact rfl); (case hu => exact xUK); all_goals (intro hb))
     | ((first | apply post_r | apply post_a); (case h1 => first | exact r1_t rfl rfl | (simp only [go_sem, Nat.reduceBEq, Nat.reduceBNe, Nat.reduceLT, Nat.reduceGT, Int.reduceGT, Int.reduceMul, Int.reduceAdd, Int.reduceSub, Nat.reduceAdd, Nat.reduceMul, Nat.reduceLeDiff, Nat.reduceEqDiff, Nat.reduceSub, Int.reduceNeg, Int.reduceToNat, Int.reduceLT, Int.reduceLE, Int.reduceEq, Int.cast_ofNat_Int, decide_true, decide_false, Bool.not_true, Bool.not_false, Bool.and_self, reduceIte, reduceCtorEq, List.length_map, hd, hw, ixA_map hlt]; with_reducible rfl)); (case he => simp))
     | (refine hK _ ?_; clear hK)
     | (clear hK; refine hK _ ?_; clear hK)
     | (clear hK; clear hK; refine hK _ ?_; clear hK)
     | (clear hK; clear hK; clear hK; refine hK _ ?_; clear hK)
     | (clear hK; clear hK; clear hK; clear hK; refine hK _ ?_; clear hK)
     | fail
    all_goals (repeat (clear hK))
    refine ⟨k + 1, ⟨hlt, trivial⟩, by omega, le_of rfl ?_ (by simp [LeT, get]) (by simp [LeK, memK])⟩
    simp only [go_sem, Nat.reduceBEq]
    rw [List.take_succ_eq_append_getElem hlt]
    simp only [List.foldl_append, List.foldl_cons, List.foldl_nil, and_true, minF]
    all_goals rfl
  · have hd : decide ((k : Int) < ((l.length : Nat) : Int)) = false := by simpa using hlt
    obtain ⟨hk1, hk2⟩ := hk
    obtain rfl : k = l.length := by omega
    repeat' first
     | with_reducible first | refine thenQ_n ?_ | refine thenQ_r ?_ | refine thenQ_e ?_ | refine blockQ_n ?_ | refine blockQ_r ?_ | refine blockQ_e ?_ | refine tri_seq fun K hK => ?_ | refine tri_skip ?_ | refine tri_ret ?_ | refine tri_exit ?_ | refine tri_block ?_ | refine tri_region ?_ | refine sq_nil ?_
     | refine blockQ_o ?_ (by rfl)
     | ((with_reducible apply s_w); (case hw => exact xWT); first | ((with_reducible apply sg_q); (case hd => exact rfl); (case hn => exact rfl); (case he => (first | exact xE0 | ((with_reducible apply e_bi); (case hx => exact xDK); (case hy => exact xDK); (case hs => exact rfl); (case h => (simp only [binI, Int.reduceAdd, Int.reduceSub, Int.reduceMul, Int.reduceLT, Int.reduceLE, Int.reduceGT, Int.reduceEq, Int.reduceNeg, decide_true, decide_false, Bool.not_true, Bool.not_false, List.length_map, hd]; with_reducible rfl))) | ((with_reducible apply e_ix); (case hx => exact xDK); (case hi => exact xDK); (case ht => exact xTY); (case hz => exact rfl); (case he => (simp only [List.length_map, hd]; with_reducible rfl)); (case hc => exact xGS)) | ((with_reducible apply e_ln); (case hx => exact xDK); (case ht => exact xTY); (case hn => (first | (simp only [List.length_map, List.length_cons, List.length_nil, List.length_map, hd]; with_reducible rfl) | rfl))) | ((with_reducible apply e_nt); (case hx => exact xDK); (case h => (first | (simp only [Bool.not_true, Bool.not_false, List.length_map, hd]; with_reducible rfl) | rfl)))))) | (((with_reducible apply sg_bx); (case hn => exact rfl); (case hv => exact xLT); (case hc => exact xGS); (case hk => exact rfl))) | (((with_reducible apply sg_al); (case hn => exact rfl); (case hz => exact xTY); (case hc => exact xGS); (case hk => exact rfl))) | (((with_reducible apply sg_st); (case hx => exact xLK); (case hv => exact xLT); (case hc => exact xGS); (case hb => exact rfl); (case ht => exact xTY); (case hz => exact rfl); (case hs => exact xGS))) | (((with_reducible apply sg_e); (case hc => (intros; simp)); (case hs => (simp only [go_sem, Nat.reduceBEq, Nat.reduceBNe, Nat.reduceLT, Nat.reduceGT, Int.reduceGT, Int.reduceMul, Int.reduceAdd, Int.reduceSub, Nat.reduceAdd, Nat.reduceMul, Nat.reduceLeDiff, Nat.reduceEqDiff, Nat.reduceSub, Int.reduceNeg, Int.reduceToNat, Int.reduceLT, Int.reduceLE, Int.reduceEq, Int.cast_ofNat_Int, decide_true, decide_false, Bool.not_true, Bool.not_false, Bool.and_self, reduceIte, reduceCtorEq, List.length_map, hd]; with_reducible rfl)))))
     | ((with_reducible apply s_n); (case hw => exact xWF); (case hd => exact rfl); (case hn => exact rfl))
     | ((with_reducible apply qs_ct); (case hc => exact xLK); (case he => exact xHB))
     | ((with_reducible apply qs_cf); (case hc => exact xLK); (case he => exact xHB))
     | ((with_reducible apply qs_cond); (case hc => exact xLK); (case hu => exact xUK); all_goals (intro hb))
     | ((with_reducible apply s_if); (case hg => exact rfl); (case hd => exact rfl); (case he => exact rfl); (case hu => exact xUK); all_goals (intro hb))
     | ((first | apply post_r | apply post_a); (case h1 => first | exact r1_t rfl rfl | (simp only [go_sem, Nat.reduceBEq, Nat.reduceBNe, Nat.reduceLT, Nat.reduceGT, Int.reduceGT, Int.reduceMul, Int.reduceAdd, Int.reduceSub, Nat.reduceAdd, Nat.reduceMul, Nat.reduceLeDiff, Nat.reduceEqDiff, Nat.reduceSub, Int.reduceNeg, Int.reduceToNat, Int.reduceLT, Int.reduceLE, Int.reduceEq, Int.cast_ofNat_Int, decide_true, decide_false, Bool.not_true, Bool.not_false, Bool.and_self, reduceIte, reduceCtorEq, List.length_map, hd]; with_reducible rfl)); (case he => simp))
     | (refine hK _ ?_; clear hK)
     | (clear hK; refine hK _ ?_; clear hK)
     | (clear hK; clear hK; refine hK _ ?_; clear hK)
     | (clear hK; clear hK; clear hK; refine hK _ ?_; clear hK)
     | (clear hK; clear hK; clear hK; clear hK; refine hK _ ?_; clear hK)
     | fail
    all_goals (repeat (clear hK))
    simp

set_option maxHeartbeats 4000000 in
theorem c_refOr (l : List Int) : FC Try.prog 91 [intsE l] (.v (.int .i64 (maxF l))) := by
  refine fc_of_body (nt := 19) (rs := [.tmp 2]) (ts := [(0, _)]) Try.func91 rfl rfl rfl rfl (by decide) (Nat.le_of_ble_eq_true rfl) ?_
  repeat' first
   | with_reducible first | refine thenQ_n ?_ | refine thenQ_r ?_ | refine thenQ_e ?_ | refine blockQ_n ?_ | refine blockQ_r ?_ | refine blockQ_e ?_ | refine tri_seq fun K hK => ?_ | refine tri_skip ?_ | refine tri_ret ?_ | refine tri_exit ?_ | refine tri_block ?_ | refine tri_region ?_ | refine sq_nil ?_
   | refine blockQ_o ?_ (by rfl)
   | ((with_reducible apply s_w); (case hw => exact xWT); first | ((with_reducible apply sg_q); (case hd => exact rfl); (case hn => exact rfl); (case he => (first | exact xE0 | ((with_reducible apply e_bi); (case hx => exact xDK); (case hy => exact xDK); (case hs => exact rfl); (case h => (simp only [binI, Int.reduceAdd, Int.reduceSub, Int.reduceMul, Int.reduceLT, Int.reduceLE, Int.reduceGT, Int.reduceEq, Int.reduceNeg, decide_true, decide_false, Bool.not_true, Bool.not_false]; with_reducible rfl))) | ((with_reducible apply e_ix); (case hx => exact xDK); (case hi => exact xDK); (case ht => exact xTY); (case hz => exact rfl); (case he => (simp only [go_sem]; with_reducible rfl)); (case hc => exact xGS)) | ((with_reducible apply e_ln); (case hx => exact xDK); (case ht => exact xTY); (case hn => (first | (simp only [List.length_map, List.length_cons, List.length_nil]; with_reducible rfl) | rfl))) | ((with_reducible apply e_nt); (case hx => exact xDK); (case h => (first | (simp only [Bool.not_true, Bool.not_false]; with_reducible rfl) | rfl)))))) | (((with_reducible apply sg_bx); (case hn => exact rfl); (case hv => exact xLT); (case hc => exact xGS); (case hk => exact rfl))) | (((with_reducible apply sg_al); (case hn => exact rfl); (case hz => exact xTY); (case hc => exact xGS); (case hk => exact rfl))) | (((with_reducible apply sg_st); (case hx => exact xLK); (case hv => exact xLT); (case hc => exact xGS); (case hb => exact rfl); (case ht => exact xTY); (case hz => exact rfl); (case hs => exact xGS))) | (((with_reducible apply sg_e); (case hc => (intros; simp)); (case hs => (simp only [go_sem, Nat.reduceBEq, Nat.reduceBNe, Nat.reduceLT, Nat.reduceGT, Int.reduceGT, Int.reduceMul, Int.reduceAdd, Int.reduceSub, Nat.reduceAdd, Nat.reduceMul, Nat.reduceLeDiff, Nat.reduceEqDiff, Nat.reduceSub, Int.reduceNeg, Int.reduceToNat, Int.reduceLT, Int.reduceLE, Int.reduceEq, Int.cast_ofNat_Int, decide_true, decide_false, Bool.not_true, Bool.not_false, Bool.and_self, reduceIte, reduceCtorEq]; with_reducible rfl)))))
   | ((with_reducible apply s_n); (case hw => exact xWF); (case hd => exact rfl); (case hn => exact rfl))
   | ((with_reducible apply qs_ct); (case hc => exact xLK); (case he => exact xHB))
   | ((with_reducible apply qs_cf); (case hc => exact xLK); (case he => exact xHB))
   | ((with_reducible apply qs_cond); (case hc => exact xLK); (case hu => exact xUK); all_goals (intro hb))
   | ((with_reducible apply s_if); (case hg => exact rfl); (case hd => exact rfl); (case he => exact rfl); (case hu => exact xUK); all_goals (intro hb))
   | ((first | apply post_r | apply post_a); (case h1 => first | exact r1_t rfl rfl | (simp only [go_sem, Nat.reduceBEq, Nat.reduceBNe, Nat.reduceLT, Nat.reduceGT, Int.reduceGT, Int.reduceMul, Int.reduceAdd, Int.reduceSub, Nat.reduceAdd, Nat.reduceMul, Nat.reduceLeDiff, Nat.reduceEqDiff, Nat.reduceSub, Int.reduceNeg, Int.reduceToNat, Int.reduceLT, Int.reduceLE, Int.reduceEq, Int.cast_ofNat_Int, decide_true, decide_false, Bool.not_true, Bool.not_false, Bool.and_self, reduceIte, reduceCtorEq]; with_reducible rfl)); (case he => simp))
   | (refine hK _ ?_; clear hK)
   | (clear hK; refine hK _ ?_; clear hK)
   | (clear hK; clear hK; refine hK _ ?_; clear hK)
   | (clear hK; clear hK; clear hK; refine hK _ ?_; clear hK)
   | (clear hK; clear hK; clear hK; clear hK; refine hK _ ?_; clear hK)
   | fail
  refine tri_len 0 (sz := 1) (xs := l.map (.int .i64)) rfl fun hm => ?_
  rw [List.length_map] at hm
  refine tri_for (fun k : Nat => ⟨19, [(4, .v (.int .i64 (k : Int))), (3, .v (.int .i64 (maxF (l.take k)))), (0, .v (intsE l))], [], []⟩) (fun k => k ≤ l.length ∧ (True)) (fun k => l.length - k) 0 ?_ ⟨Nat.zero_le _, trivial⟩ ?_
  · exact le_of rfl (by simp [LeT, get, maxF]) (by simp [LeT, get]) (by simp [LeK, memK])
  intro k hk
  by_cases hlt : k < l.length
  · have hd : decide ((k : Int) < ((l.length : Nat) : Int)) = true := by simpa using hlt
    have hw := wrap_succ hlt hm
    repeat' first
     | with_reducible first | refine thenQ_n ?_ | refine thenQ_r ?_ | refine thenQ_e ?_ | refine blockQ_n ?_ | refine blockQ_r ?_ | refine blockQ_e ?_ | refine tri_seq fun K hK => ?_ | refine tri_skip ?_ | refine tri_ret ?_ | refine tri_exit ?_ | refine tri_block ?_ | refine tri_region ?_ | refine sq_nil ?_
     | refine blockQ_o ?_ (by rfl)
     | ((with_reducible apply s_w); (case hw => exact xWT); first | ((with_reducible apply sg_q); (case hd => exact rfl); (case hn => exact rfl); (case he => (first | exact xE0 | ((with_reducible apply e_bi); (case hx => exact xDK); (case hy => exact xDK); (case hs => exact rfl); (case h => (simp only [binI, Int.reduceAdd, Int.reduceSub, Int.reduceMul, Int.reduceLT, Int.reduceLE, Int.reduceGT, Int.reduceEq, Int.reduceNeg, decide_true, decide_false, Bool.not_true, Bool.not_false, List.length_map, hd, hw, ixA_map hlt]; with_reducible rfl))) | ((with_reducible apply e_ix); (case hx => exact xDK); (case hi => exact xDK); (case ht => exact xTY); (case hz => exact rfl); (case he => (simp only [List.length_map, hd, hw, ixA_map hlt]; with_reducible rfl)); (case hc => exact xGS)) | ((with_reducible apply e_ln); (case hx => exact xDK); (case ht => exact xTY); (case hn => (first | (simp only [List.length_map, List.length_cons, List.length_nil, List.length_map, hd, hw, ixA_map hlt]; with_reducible rfl) | rfl))) | ((with_reducible apply e_nt); (case hx => exact xDK); (case h => (first | (simp only [Bool.not_true, Bool.not_false, List.length_map, hd, hw, ixA_map hlt]; with_reducible rfl) | rfl)))))) | (((with_reducible apply sg_k); (case ha => exact xDA); (case hfc => ((try simp only [List.length_map, hd, hw, ixA_map hlt]); first | exact c_threeF _ | (have hq_ := c_threeF _; simp only [Prd.e_eq, Trm.e, Val.e, Col.e, Tre.e_eq] at hq_; exact hq_))); (case hr => exact xRT))) | ((with_reducible apply sg_kv); (case hv => exact rfl); (case ha => exact xDA); (case hl => exact xLs); (case hfc => ((try simp only [List.length_map, hd, hw, ixA_map hlt]); first | exact c_threeF _ | (have hq_ := c_threeF _; simp only [Prd.e_eq, Trm.e, Val.e, Col.e, Tre.e_eq] at hq_; exact hq_))); (case hr => exact xRT)) | (((with_reducible apply sg_bx); (case hn => exact rfl); (case hv => exact xLT); (case hc => exact xGS); (case hk => exact rfl))) | (((with_reducible apply sg_al); (case hn => exact rfl); (case hz => exact xTY); (case hc => exact xGS); (case hk => exact rfl))) | (((with_reducible apply sg_st); (case hx => exact xLK); (case hv => exact xLT); (case hc => exact xGS); (case hb => exact rfl); (case ht => exact xTY); (case hz => exact rfl); (case hs => exact xGS))) | (((with_reducible apply sg_e); (case hc => (intros; simp)); (case hs => (simp only [go_sem, Nat.reduceBEq, Nat.reduceBNe, Nat.reduceLT, Nat.reduceGT, Int.reduceGT, Int.reduceMul, Int.reduceAdd, Int.reduceSub, Nat.reduceAdd, Nat.reduceMul, Nat.reduceLeDiff, Nat.reduceEqDiff, Nat.reduceSub, Int.reduceNeg, Int.reduceToNat, Int.reduceLT, Int.reduceLE, Int.reduceEq, Int.cast_ofNat_Int, decide_true, decide_false, Bool.not_true, Bool.not_false, Bool.and_self, reduceIte, reduceCtorEq, List.length_map, hd, hw, ixA_map hlt]; with_reducible rfl)))))
     | ((with_reducible apply s_n); (case hw => exact xWF); (case hd => exact rfl); (case hn => exact rfl))
     | ((with_reducible apply qs_ct); (case hc => exact xLK); (case he => exact xHB))
     | ((with_reducible apply qs_cf); (case hc => exact xLK); (case he => exact xHB))
     | ((with_reducible apply qs_cond); (case hc => exact xLK); (case hu => exact xUK); all_goals (intro hb))
     | ((with_reducible apply s_if); (case hg => exact rfl); (case hd => exact rfl); (case he => exact rfl); (case hu => exact xUK); all_goals (intro hb))
     | ((first | apply post_r | apply post_a); (case h1 => first | exact r1_t rfl rfl | (simp only [go_sem, Nat.reduceBEq, Nat.reduceBNe, Nat.reduceLT, Nat.reduceGT, Int.reduceGT, Int.reduceMul, Int.reduceAdd, Int.reduceSub, Nat.reduceAdd, Nat.reduceMul, Nat.reduceLeDiff, Nat.reduceEqDiff, Nat.reduceSub, Int.reduceNeg, Int.reduceToNat, Int.reduceLT, Int.reduceLE, Int.reduceEq, Int.cast_ofNat_Int, decide_true, decide_false, Bool.not_true, Bool.not_false, Bool.and_self, reduceIte, reduceCtorEq, List.length_map, hd, hw, ixA_map hlt]; with_reducible rfl)); (case he => simp))
     | (refine hK _ ?_; clear hK)
     | (clear hK; refine hK _ ?_; clear hK)
     | (clear hK; clear hK; refine hK _ ?_; clear hK)
     | (clear hK; clear hK; clear hK; refine hK _ ?_; clear hK)
     | (clear hK; clear hK; clear hK; clear hK; refine hK _ ?_; clear hK)
     | fail
    all_goals (repeat (clear hK))
    refine ⟨k + 1, ⟨hlt, trivial⟩, by omega, le_of rfl ?_ (by simp [LeT, get]) (by simp [LeK, memK])⟩
    simp only [go_sem, Nat.reduceBEq]
    rw [List.take_succ_eq_append_getElem hlt]
    simp only [List.foldl_append, List.foldl_cons, List.foldl_nil, and_true, maxF]
    all_goals rfl
  · have hd : decide ((k : Int) < ((l.length : Nat) : Int)) = false := by simpa using hlt
    obtain ⟨hk1, hk2⟩ := hk
    obtain rfl : k = l.length := by omega
    repeat' first
     | with_reducible first | refine thenQ_n ?_ | refine thenQ_r ?_ | refine thenQ_e ?_ | refine blockQ_n ?_ | refine blockQ_r ?_ | refine blockQ_e ?_ | refine tri_seq fun K hK => ?_ | refine tri_skip ?_ | refine tri_ret ?_ | refine tri_exit ?_ | refine tri_block ?_ | refine tri_region ?_ | refine sq_nil ?_
     | refine blockQ_o ?_ (by rfl)
     | ((with_reducible apply s_w); (case hw => exact xWT); first | ((with_reducible apply sg_q); (case hd => exact rfl); (case hn => exact rfl); (case he => (first | exact xE0 | ((with_reducible apply e_bi); (case hx => exact xDK); (case hy => exact xDK); (case hs => exact rfl); (case h => (simp only [binI, Int.reduceAdd, Int.reduceSub, Int.reduceMul, Int.reduceLT, Int.reduceLE, Int.reduceGT, Int.reduceEq, Int.reduceNeg, decide_true, decide_false, Bool.not_true, Bool.not_false, List.length_map, hd]; with_reducible rfl))) | ((with_reducible apply e_ix); (case hx => exact xDK); (case hi => exact xDK); (case ht => exact xTY); (case hz => exact rfl); (case he => (simp only [List.length_map, hd]; with_reducible rfl)); (case hc => exact xGS)) | ((with_reducible apply e_ln); (case hx => exact xDK); (case ht => exact xTY); (case hn => (first | (simp only [List.length_map, List.length_cons, List.length_nil, List.length_map, hd]; with_reducible rfl) | rfl))) | ((with_reducible apply e_nt); (case hx => exact xDK); (case h => (first | (simp only [Bool.not_true, Bool.not_false, List.length_map, hd]; with_reducible rfl) | rfl)))))) | (((with_reducible apply sg_bx); (case hn => exact rfl); (case hv => exact xLT); (case hc => exact xGS); (case hk => exact rfl))) | (((with_reducible apply sg_al); (case hn => exact rfl); (case hz => exact xTY); (case hc => exact xGS); (case hk => exact rfl))) | (((with_reducible apply sg_st); (case hx => exact xLK); (case hv => exact xLT); (case hc => exact xGS); (case hb => exact rfl); (case ht => exact xTY); (case hz => exact rfl); (case hs => exact xGS))) | (((with_reducible apply sg_e); (case hc => (intros; simp)); (case hs => (simp only [go_sem, Nat.reduceBEq, Nat.reduceBNe, Nat.reduceLT, Nat.reduceGT, Int.reduceGT, Int.reduceMul, Int.reduceAdd, Int.reduceSub, Nat.reduceAdd, Nat.reduceMul, Nat.reduceLeDiff, Nat.reduceEqDiff, Nat.reduceSub, Int.reduceNeg, Int.reduceToNat, Int.reduceLT, Int.reduceLE, Int.reduceEq, Int.cast_ofNat_Int, decide_true, decide_false, Bool.not_true, Bool.not_false, Bool.and_self, reduceIte, reduceCtorEq, List.length_map, hd]; with_reducible rfl)))))
     | ((with_reducible apply s_n); (case hw => exact xWF); (case hd => exact rfl); (case hn => exact rfl))
     | ((with_reducible apply qs_ct); (case hc => exact xLK); (case he => exact xHB))
     | ((with_reducible apply qs_cf); (case hc => exact xLK); (case he => exact xHB))
     | ((with_reducible apply qs_cond); (case hc => exact xLK); (case hu => exact xUK); all_goals (intro hb))
     | ((with_reducible apply s_if); (case hg => exact rfl); (case hd => exact rfl); (case he => exact rfl); (case hu => exact xUK); all_goals (intro hb))
     | ((first | apply post_r | apply post_a); (case h1 => first | exact r1_t rfl rfl | (simp only [go_sem, Nat.reduceBEq, Nat.reduceBNe, Nat.reduceLT, Nat.reduceGT, Int.reduceGT, Int.reduceMul, Int.reduceAdd, Int.reduceSub, Nat.reduceAdd, Nat.reduceMul, Nat.reduceLeDiff, Nat.reduceEqDiff, Nat.reduceSub, Int.reduceNeg, Int.reduceToNat, Int.reduceLT, Int.reduceLE, Int.reduceEq, Int.cast_ofNat_Int, decide_true, decide_false, Bool.not_true, Bool.not_false, Bool.and_self, reduceIte, reduceCtorEq, List.length_map, hd]; with_reducible rfl)); (case he => simp))
     | (refine hK _ ?_; clear hK)
     | (clear hK; refine hK _ ?_; clear hK)
     | (clear hK; clear hK; refine hK _ ?_; clear hK)
     | (clear hK; clear hK; clear hK; refine hK _ ?_; clear hK)
     | (clear hK; clear hK; clear hK; clear hK; refine hK _ ?_; clear hK)
     | fail
    all_goals (repeat (clear hK))
    simp

def oneF (i : Int) : Int := if i < 0 ∨ i ≥ 64 then 0 else ((2 ^ i.toNat : Nat) : Int)
theorem shl_one (i : Int) (h : 0 ≤ i ∧ i < 64) : IntKind.u64.wrap (1 * 2 ^ (min i.toNat 64)) = oneF i := by
  obtain ⟨n, rfl⟩ : ∃ n : Nat, i = n := ⟨i.toNat, by omega⟩
  have hn : n < 64 := by omega
  have e : min n 64 = n := by omega
  simp only [oneF, Int.toNat_natCast, e, Int.one_mul]
  rw [if_neg (by omega), IntKind.wrap_u64]
  have h1 : (2 : Nat) ^ n < 2 ^ 64 := Nat.pow_lt_pow_right (by omega) hn
  have h2 : ((2 ^ n : Nat) : Int) = (2 : Int) ^ n := by simp
  rw [← h2]
  clear h2
  generalize (2 : Nat) ^ n = m at h1 ⊢
  have h3 : (2:Nat) ^ 64 = 18446744073709551616 := by decide
  omega

set_option maxHeartbeats 4000000 in
theorem c_one (i : Int) : FC Try.prog 105 [.int .i64 i] (.v (.int .u64 (oneF i))) := by
  refine fc_of_body (nt := 12) (rs := [.tmp 2]) (ts := [(0, _)]) Try.func105 rfl rfl rfl rfl (by decide) (Nat.le_of_ble_eq_true rfl) ?_
  by_cases h : 0 ≤ i ∧ i < 64
  · have h1 : IntKind.u64.wrap i = i := by rw [IntKind.wrap_u64]; omega
    have h2 : (i < 0) = False := by simp; omega
    have h3 : decide (64 ≤ i) = false := by simp; omega
    have h4 := shl_one i h
    repeat' first
     | with_reducible first | refine thenQ_n ?_ | refine thenQ_r ?_ | refine thenQ_e ?_ | refine blockQ_n ?_ | refine blockQ_r ?_ | refine blockQ_e ?_ | refine tri_seq fun K hK => ?_ | refine tri_skip ?_ | refine tri_ret ?_ | refine tri_exit ?_ | refine tri_block ?_ | refine tri_region ?_ | refine sq_nil ?_
     | refine blockQ_o ?_ (by rfl)
     | ((with_reducible apply s_w); (case hw => exact xWT); first | ((with_reducible apply sg_q); (case hd => exact rfl); (case hn => exact rfl); (case he => (first | exact xE0 | ((with_reducible apply e_bi); (case hx => exact xDK); (case hy => exact xDK); (case hs => exact rfl); (case h => (simp only [binI, Int.reduceAdd, Int.reduceSub, Int.reduceMul, Int.reduceLT, Int.reduceLE, Int.reduceGT, Int.reduceEq, Int.reduceNeg, decide_true, decide_false, Bool.not_true, Bool.not_false, h1, h2, h3, h4]; with_reducible rfl))) | ((with_reducible apply e_ix); (case hx => exact xDK); (case hi => exact xDK); (case ht => exact xTY); (case hz => exact rfl); (case he => (simp only [h1, h2, h3, h4]; with_reducible rfl)); (case hc => exact xGS)) | ((with_reducible apply e_ln); (case hx => exact xDK); (case ht => exact xTY); (case hn => (first | (simp only [List.length_map, List.length_cons, List.length_nil, h1, h2, h3, h4]; with_reducible rfl) | rfl))) | ((with_reducible apply e_nt); (case hx => exact xDK); (case h => (first | (simp only [Bool.not_true, Bool.not_false, h1, h2, h3, h4]; with_reducible rfl) | rfl)))))) | (((with_reducible apply sg_bx); (case hn => exact rfl); (case hv => exact xLT); (case hc => exact xGS); (case hk => exact rfl))) | (((with_reducible apply sg_al); (case hn => exact rfl); (case hz => exact xTY); (case hc => exact xGS); (case hk => exact rfl))) | (((with_reducible apply sg_st); (case hx => exact xLK); (case hv => exact xLT); (case hc => exact xGS); (case hb => exact rfl); (case ht => exact xTY); (case hz => exact rfl); (case hs => exact xGS))) | (((with_reducible apply sg_e); (case hc => (intros; simp)); (case hs => (simp only [go_sem, Nat.reduceBEq, Nat.reduceBNe, Nat.reduceLT, Nat.reduceGT, Int.reduceGT, Int.reduceMul, Int.reduceAdd, Int.reduceSub, Nat.reduceAdd, Nat.reduceMul, Nat.reduceLeDiff, Nat.reduceEqDiff, Nat.reduceSub, Int.reduceNeg, Int.reduceToNat, Int.reduceLT, Int.reduceLE, Int.reduceEq, Int.cast_ofNat_Int, decide_true, decide_false, Bool.not_true, Bool.not_false, Bool.and_self, reduceIte, reduceCtorEq, h1, h2, h3, h4]; with_reducible rfl)))))
     | ((with_reducible apply s_n); (case hw => exact xWF); (case hd => exact rfl); (case hn => exact rfl))
     | ((with_reducible apply qs_ct); (case hc => exact xLK); (case he => exact xHB))
     | ((with_reducible apply qs_cf); (case hc => exact xLK); (case he => exact xHB))
     | ((with_reducible apply qs_cond); (case hc => exact xLK); (case hu => exact xUK); all_goals (intro hb))
     | ((with_reducible apply s_if); (case hg => exact rfl); (case hd => exact rfl); (case he => exact rfl); (case hu => exact xUK); all_goals (intro hb))
     | ((first | apply post_r | apply post_a); (case h1 => first | exact r1_t rfl rfl | (simp only [go_sem, Nat.reduceBEq, Nat.reduceBNe, Nat.reduceLT, Nat.reduceGT, Int.reduceGT, Int.reduceMul, Int.reduceAdd, Int.reduceSub, Nat.reduceAdd, Nat.reduceMul, Nat.reduceLeDiff, Nat.reduceEqDiff, Nat.reduceSub, Int.reduceNeg, Int.reduceToNat, Int.reduceLT, Int.reduceLE, Int.reduceEq, Int.cast_ofNat_Int, decide_true, decide_false, Bool.not_true, Bool.not_false, Bool.and_self, reduceIte, reduceCtorEq, h1, h2, h3, h4]; with_reducible rfl)); (case he => simp))
     | (refine hK _ ?_; clear hK)
     | (clear hK; refine hK _ ?_; clear hK)
     | (clear hK; clear hK; refine hK _ ?_; clear hK)
     | (clear hK; clear hK; clear hK; refine hK _ ?_; clear hK)
     | (clear hK; clear hK; clear hK; clear hK; refine hK _ ?_; clear hK)
     | fail
    all_goals (repeat (clear hK))
    rfl
  · have h3 : decide (i < 0) = true ∨ (decide (i < 0) = false ∧ decide (64 ≤ i) = true) := by simp; omega
    rcases h3 with h3 | ⟨h3, h4⟩
    · have h4 := h3
      repeat' first
       | with_reducible first | refine thenQ_n ?_ | refine thenQ_r ?_ | refine thenQ_e ?_ | refine blockQ_n ?_ | refine blockQ_r ?_ | refine blockQ_e ?_ | refine tri_seq fun K hK => ?_ | refine tri_skip ?_ | refine tri_ret ?_ | refine tri_exit ?_ | refine tri_block ?_ | refine tri_region ?_ | refine sq_nil ?_
       | refine blockQ_o ?_ (by rfl)
       | ((with_reducible apply s_w); (case hw => exact xWT); first | ((with_reducible apply sg_q); (case hd => exact rfl); (case hn => exact rfl); (case he => (first | exact xE0 | ((with_reducible apply e_bi); (case hx => exact xDK); (case hy => exact xDK); (case hs => exact rfl); (case h => (simp only [binI, Int.reduceAdd, Int.reduceSub, Int.reduceMul, Int.reduceLT, Int.reduceLE, Int.reduceGT, Int.reduceEq, Int.reduceNeg, decide_true, decide_false, Bool.not_true, Bool.not_false, h3]; with_reducible rfl))) | ((with_reducible apply e_ix); (case hx => exact xDK); (case hi => exact xDK); (case ht => exact xTY); (case hz => exact rfl); (case he => (simp only [h3]; with_reducible rfl)); (case hc => exact xGS)) | ((with_reducible apply e_ln); (case hx => exact xDK); (case ht => exact xTY); (case hn => (first | (simp only [List.length_map, List.length_cons, List.length_nil, h3]; with_reducible rfl) | rfl))) | ((with_reducible apply e_nt); (case hx => exact xDK); (case h => (first | (simp only [Bool.not_true, Bool.not_false, h3]; with_reducible rfl) | rfl)))))) | (((with_reducible apply sg_bx); (case hn => exact rfl); (case hv => exact xLT); (case hc => exact xGS); (case hk => exact rfl))) | (((with_reducible apply sg_al); (case hn => exact rfl); (case hz => exact xTY); (case hc => exact xGS); (case hk => exact rfl))) | (((with_reducible apply sg_st); (case hx => exact xLK); (case hv => exact xLT); (case hc => exact xGS); (case hb => exact rfl); (case ht => exact xTY); (case hz => exact rfl); (case hs => exact xGS))) | (((with_reducible apply sg_e); (case hc => (intros; simp)); (case hs => (simp only [go_sem, Nat.reduceBEq, Nat.reduceBNe, Nat.reduceLT, Nat.reduceGT, Int.reduceGT, Int.reduceMul, Int.reduceAdd, Int.reduceSub, Nat.reduceAdd, Nat.reduceMul, Nat.reduceLeDiff, Nat.reduceEqDiff, Nat.reduceSub, Int.reduceNeg, Int.reduceToNat, Int.reduceLT, Int.reduceLE, Int.reduceEq, Int.cast_ofNat_Int, decide_true, decide_false, Bool.not_true, Bool.not_false, Bool.and_self, reduceIte, reduceCtorEq, h3]; with_reducible rfl)))))
       | ((with_reducible apply s_n); (case hw => exact xWF); (case hd => exact rfl); (case hn => exact rfl))
       | ((with_reducible apply qs_ct); (case hc => exact xLK); (case he => exact xHB))
       | ((with_reducible apply qs_cf); (case hc => exact xLK); (case he => exact xHB))
       | ((with_reducible apply qs_cond); (case hc => exact xLK); (case hu => exact xUK); all_goals (intro hb))
       | ((with_reducible apply s_if); (case hg => exact rfl); (case hd => exact rfl); (case he => exact rfl); (case hu => exact xUK); all_goals (intro hb))
       | ((first | apply post_r | apply post_a); (case h1 => first | exact r1_t rfl rfl | (simp only [go_sem, Nat.reduceBEq, Nat.reduceBNe, Nat.reduceLT, Nat.reduceGT, Int.reduceGT, Int.reduceMul, Int.reduceAdd, Int.reduceSub, Nat.reduceAdd, Nat.reduceMul, Nat.reduceLeDiff, Nat.reduceEqDiff, Nat.reduceSub, Int.reduceNeg, Int.reduceToNat, Int.reduceLT, Int.reduceLE, Int.reduceEq, Int.cast_ofNat_Int, decide_true, decide_false, Bool.not_true, Bool.not_false, Bool.and_self, reduceIte, reduceCtorEq, h3]; with_reducible rfl)); (case he => simp))
       | (refine hK _ ?_; clear hK)
       | (clear hK; refine hK _ ?_; clear hK)
       | (clear hK; clear hK; refine hK _ ?_; clear hK)
       | (clear hK; clear hK; clear hK; refine hK _ ?_; clear hK)
       | (clear hK; clear hK; clear hK; clear hK; refine hK _ ?_; clear hK)
       | fail
      all_goals (repeat (clear hK))
      simp only [decide_eq_true_eq] at h3
      simp [oneF, h3]
    · 
      repeat' first
       | with_reducible first | refine thenQ_n ?_ | refine thenQ_r ?_ | refine thenQ_e ?_ | refine blockQ_n ?_ | refine blockQ_r ?_ | refine blockQ_e ?_ | refine tri_seq fun K hK => ?_ | refine tri_skip ?_ | refine tri_ret ?_ | refine tri_exit ?_ | refine tri_block ?_ | refine tri_region ?_ | refine sq_nil ?_
       | refine blockQ_o ?_ (by rfl)
       | ((with_reducible apply s_w); (case hw => exact xWT); first | ((with_reducible apply sg_q); (case hd => exact rfl); (case hn => exact rfl); (case he => (first | exact xE0 | ((with_reducible apply e_bi); (case hx => exact xDK); (case hy => exact xDK); (case hs => exact rfl); (case h => (simp only [binI, Int.reduceAdd, Int.reduceSub, Int.reduceMul, Int.reduceLT, Int.reduceLE, Int.reduceGT, Int.reduceEq, Int.reduceNeg, decide_true, decide_false, Bool.not_true, Bool.not_false, h3, h4]; with_reducible rfl))) | ((with_reducible apply e_ix); (case hx => exact xDK); (case hi => exact xDK); (case ht => exact xTY); (case hz => exact rfl); (case he => (simp only [h3, h4]; with_reducible rfl)); (case hc => exact xGS)) | ((with_reducible apply e_ln); (case hx => exact xDK); (case ht => exact xTY); (case hn => (first | (simp only [List.length_map, List.length_cons, List.length_nil, h3, h4]; with_reducible rfl) | rfl))) | ((with_reducible apply e_nt); (case hx => exact xDK); (case h => (first | (simp only [Bool.not_true, Bool.not_false, h3, h4]; with_reducible rfl) | rfl)))))) | (((with_reducible apply sg_bx); (case hn => exact rfl); (case hv => exact xLT); (case hc => exact xGS); (case hk => exact rfl))) | (((with_reducible apply sg_al); (case hn => exact rfl); (case hz => exact xTY); (case hc => exact xGS); (case hk => exact rfl))) | (((with_reducible apply sg_st); (case hx => exact xLK); (case hv => exact xLT); (case hc => exact xGS); (case hb => exact rfl); (case ht => exact xTY); (case hz => exact rfl); (case hs => exact xGS))) | (((with_reducible apply sg_e); (case hc => (intros; simp)); (case hs => (simp only [go_sem, Nat.reduceBEq, Nat.reduceBNe, Nat.reduceLT, Nat.reduceGT, Int.reduceGT, Int.reduceMul, Int.reduceAdd, Int.reduceSub, Nat.reduceAdd, Nat.reduceMul, Nat.reduceLeDiff, Nat.reduceEqDiff, Nat.reduceSub, Int.reduceNeg, Int.reduceToNat, Int.reduceLT, Int.reduceLE, Int.reduceEq, Int.cast_ofNat_Int, decide_true, decide_false, Bool.not_true, Bool.not_false, Bool.and_self, reduceIte, reduceCtorEq, h3, h4]; with_reducible rfl)))))
       | ((with_reducible apply s_n); (case hw => exact xWF); (case hd => exact rfl); (case hn => exact rfl))
       | ((with_reducible apply qs_ct); (case hc => exact xLK); (case he => exact xHB))
       | ((with_reducible apply qs_cf); (case hc => exact xLK); (case he => exact xHB))
       | ((with_reducible apply qs_cond); (case hc => exact xLK); (case hu => exact xUK); all_goals (intro hb))
       | ((with_reducible apply s_if); (case hg => exact rfl); (case hd => exact rfl); (case he => exact rfl); (case hu => exact xUK); all_goals (intro hb))
       | ((first | apply post_r | apply post_a); (case h1 => first | exact r1_t rfl rfl | (simp only [go_sem, Nat.reduceBEq, Nat.reduceBNe, Nat.reduceLT, Nat.reduceGT, Int.reduceGT, Int.reduceMul, Int.reduceAdd, Int.reduceSub, Nat.reduceAdd, Nat.reduceMul, Nat.reduceLeDiff, Nat.reduceEqDiff, Nat.reduceSub, Int.reduceNeg, Int.reduceToNat, Int.reduceLT, Int.reduceLE, Int.reduceEq, Int.cast_ofNat_Int, decide_true, decide_false, Bool.not_true, Bool.not_false, Bool.and_self, reduceIte, reduceCtorEq, h3, h4]; with_reducible rfl)); (case he => simp))
       | (refine hK _ ?_; clear hK)
       | (clear hK; refine hK _ ?_; clear hK)
       | (clear hK; clear hK; refine hK _ ?_; clear hK)
       | (clear hK; clear hK; clear hK; refine hK _ ?_; clear hK)
       | (clear hK; clear hK; clear hK; clear hK; refine hK _ ?_; clear hK)
       | fail
      all_goals (repeat (clear hK))
      simp only [decide_eq_true_eq] at h4
      simp [oneF, h4]

end Go.Proofs.Ytekdlkjonihglaa.AL
