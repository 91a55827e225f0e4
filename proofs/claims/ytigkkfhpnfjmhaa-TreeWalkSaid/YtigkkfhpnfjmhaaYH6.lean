/- Contracts: the same trees, by the reference; copies. -/
import Derived.Test.YtigkkfhpnfjmhaaYH5
import Derived.Test.YtigkkfhpnfjmhaaYF13b
namespace Go.Proofs.Ytigkkfhpnfjmhaa.AL
open Go
set_option linter.unusedVariables false
set_option linter.unusedSimpArgs false
set_option maxRecDepth 4000

set_option maxHeartbeats 4000000 in
theorem c_refSameT (p q : Tre) : FC Try.prog 19 [p.e, q.e] (.v (.bool (sameT p q))) := by
  revert q
  induction p using Tre.ind
  rename_i p ih
  intro q
  have cl := c_refListP p.conj q.conj
  refine fc_of_body (nt := 61) (rs := [.tmp 4]) (ts := [(0, _), (1, _)]) Try.func19 rfl rfl rfl rfl (by decide) (Nat.le_of_ble_eq_true rfl) ?_
  repeat' first
   | with_reducible first | refine thenQ_n ?_ | refine thenQ_r ?_ | refine thenQ_e ?_ | refine blockQ_n ?_ | refine blockQ_r ?_ | refine blockQ_e ?_ | refine tri_seq fun K hK => ?_ | refine tri_skip ?_ | refine tri_ret ?_ | refine tri_exit ?_ | refine tri_block ?_ | refine tri_region ?_ | refine sq_nil ?_
   | refine blockQ_o ?_ (by rfl)
   | (with_reducible refine dr (id := 6) [0, 1, 2, 3, 4, 5, 6, 7, 8, 9, 10, 11] [] ?_)
   | ((first | with_reducible apply s_w | ((with_reducible apply d_w); (case ho => exact rfl))); (case hw => exact xWT); first | ((with_reducible first | apply sg_q | apply dg_q); (case hd => exact rfl); (case hn => exact rfl); (case he => (first | exact xE0 | ((with_reducible apply e_bi); (case hx => exact xDK); (case hy => exact xDK); (case hs => exact rfl); (case h => (simp only [binI, Int.reduceAdd, Int.reduceSub, Int.reduceMul, Int.reduceLT, Int.reduceLE, Int.reduceGT, Int.reduceEq, Int.reduceNeg, decide_true, decide_false, Bool.not_true, Bool.not_false, List.length_map, eq_self, decide_true, Bool.and_true, Bool.true_and]; with_reducible rfl))) | ((with_reducible apply e_ix); (case hx => exact xDK); (case hi => exact xDK); (case ht => exact xTY); (case hz => exact rfl); (case he => (simp only [List.length_map, eq_self, decide_true, Bool.and_true, Bool.true_and]; with_reducible rfl)); (case hc => exact xGS)) | ((with_reducible apply e_ln); (case hx => exact xDK); (case ht => exact xTY); (case hn => (first | (simp only [List.length_map, List.length_cons, List.length_nil, List.length_map, eq_self, decide_true, Bool.and_true, Bool.true_and]; with_reducible rfl) | rfl))) | ((with_reducible apply e_nt); (case hx => exact xDK); (case h => (first | (simp only [Bool.not_true, Bool.not_false, List.length_map, eq_self, decide_true, Bool.and_true, Bool.true_and]; with_reducible rfl) | rfl)))))) | ((first | with_reducible apply sg_k | ((with_reducible apply dg_k); (case hn => exact rfl))); (case ha => exact xDA); (case hfc => ((try simp only [List.length_map, eq_self, decide_true, Bool.and_true, Bool.true_and]); first | exact cl | (have hq_ := cl; simp only [Prd.e_eq, Trm.e, Val.e, Col.e, Tre.e_eq] at hq_; exact hq_))); (case hr => exact xRD)) | ((first | with_reducible apply sg_kv | ((with_reducible apply dg_kv); (case hn => exact rfl))); (case hv => exact rfl); (case ha => exact xDA); (case hl => exact xLs); (case hfc => ((try simp only [List.length_map, eq_self, decide_true, Bool.and_true, Bool.true_and]); first | exact cl | (have hq_ := cl; simp only [Prd.e_eq, Trm.e, Val.e, Col.e, Tre.e_eq] at hq_; exact hq_))); (case hr => exact xRD)) | (((with_reducible apply sg_bx); (case hn => exact rfl); (case hv => exact xLT); (case hc => exact xGS); (case hk => exact rfl))) | (((with_reducible apply sg_al); (case hn => exact rfl); (case hz => exact xTY); (case hc => exact xGS); (case hk => exact rfl))) | (((with_reducible apply sg_st); (case hx => exact xLK); (case hv => exact xLT); (case hc => exact xGS); (case hb => exact rfl); (case ht => exact xTY); (case hz => exact rfl); (case hs => exact xGS))) | (((with_reducible apply dg_al); (case hn => exact rfl); (case hz => exact xTY); (case hc => exact xGS))) | (((first | ((with_reducible apply sg_e); (case hc => (intros; simp))) | ((with_reducible apply dg_e); (case hd => exact rfl); (case hn => exact rfl))); (case hs => (simp only [go_sem, Nat.reduceBEq, Nat.reduceBNe, Nat.reduceLT, Nat.reduceGT, Int.reduceGT, Int.reduceMul, Int.reduceAdd, Int.reduceSub, Nat.reduceAdd, Nat.reduceMul, Nat.reduceLeDiff, Nat.reduceEqDiff, Nat.reduceSub, Int.reduceNeg, Int.reduceToNat, Int.reduceLT, Int.reduceLE, Int.reduceEq, Int.cast_ofNat_Int, decide_true, decide_false, Bool.not_true, Bool.not_false, Bool.and_self, reduceIte, reduceCtorEq, List.length_map, eq_self, decide_true, Bool.and_true, Bool.true_and]; with_reducible rfl)))))
   | ((first | with_reducible apply s_n | ((with_reducible apply d_n); (case ho => exact rfl))); (case hw => exact xWF); (case hd => exact rfl); (case hn => exact rfl))
   | ((with_reducible refine dq_nil ?_); apply d_end; (case hd => kernel_rfl); (case ht => exact xGS); (case hb => exact xGS); (case hk => exact xGS))
   | ((with_reducible apply qs_ct); (case hc => exact xLK); (case he => exact xHB))
   | ((with_reducible apply qs_cf); (case hc => exact xLK); (case he => exact xHB))
   | ((with_reducible apply qs_cond); (case hc => exact xLK); (case hu => exact xUK); all_goals (intro hb))
   | ((first | with_reducible apply s_if | ((with_reducible apply d_if); (case ho => exact rfl))); (case hg => exact rfl); (case hd => exact rfl); (case he => exact rfl); (case hu => exact xUK); all_goals (intro hb))
   | ((first | apply post_r | apply post_a); (case h1 => first | exact r1_t rfl rfl | (simp only [go_sem, Nat.reduceBEq, Nat.reduceBNe, Nat.reduceLT, Nat.reduceGT, Int.reduceGT, Int.reduceMul, Int.reduceAdd, Int.reduceSub, Nat.reduceAdd, Nat.reduceMul, Nat.reduceLeDiff, Nat.reduceEqDiff, Nat.reduceSub, Int.reduceNeg, Int.reduceToNat, Int.reduceLT, Int.reduceLE, Int.reduceEq, Int.cast_ofNat_Int, decide_true, decide_false, Bool.not_true, Bool.not_false, Bool.and_self, reduceIte, reduceCtorEq, List.length_map, eq_self, decide_true, Bool.and_true, Bool.true_and]; with_reducible rfl)); (case he => simp))
   | (refine hK _ ?_; clear hK)
   | (clear hK; refine hK _ ?_; clear hK)
   | (clear hK; clear hK; refine hK _ ?_; clear hK)
   | (clear hK; clear hK; clear hK; refine hK _ ?_; clear hK)
   | (clear hK; clear hK; clear hK; clear hK; refine hK _ ?_; clear hK)
   | fail
  all_goals try (
    (repeat (clear hK))
    rw [sameT_eq]
    clear ih cl
    refine congrArg _ (Eq.symm ?_)
    first
      | (have h0 : baseT p q = false := by simp_all [baseT]
         rw [h0]; rfl)
      | (have h0 : baseT p q = false := by grind [baseT]
         rw [h0]; rfl)
      | (rw [eqT_len (by intro h; simp_all), Bool.and_false]))
  have hbase : baseT p q = true := by clear ih hK cl; simp_all [baseT]
  have he : p.kids.length = q.kids.length := by clear ih hK cl; simp_all; omega
  refine tri_boxlen 2 2 rfl rfl fun hm => ?_
  rw [List.length_map] at hm
  refine tri_for (fun k : Nat => ⟨61, [(5, .v (.int .i64 (k : Int))), (3, .loc 3 0), (2, .loc 2 0)], [(2, [.v (.int .i64 p.kind), .v (.int .i64 p.table), .v (.sl 5 (p.kids.map Tre.e)), .v (.sl 14 (p.conj.map Prd.e)), .v (.bool p.hash)]), (3, [.v (.int .i64 q.kind), .v (.int .i64 q.table), .v (.sl 5 (q.kids.map Tre.e)), .v (.sl 14 (q.conj.map Prd.e)), .v (.bool q.hash)])], []⟩) (fun k => k ≤ p.kids.length ∧ ∀ j (hj : j < p.kids.length) (hj' : j < q.kids.length), j < k → sameT p.kids[j] q.kids[j] = true) (fun k => p.kids.length - k) 0 ?_ ⟨Nat.zero_le _, fun j _ _ h => absurd h (by omega)⟩ ?_
  · exact le_of rfl (by simp [LeT, get]) (by simp [LeT, get]) (by simp [LeK, memK])
  intro k hk
  by_cases hlt : k < p.kids.length
  · have hd : decide ((k : Int) < (p.kids.length : Int)) = true := by simpa using hlt
    have hw := wrap_succ hlt hm
    have hlt' : k < q.kids.length := by omega
    have ihk := ih p.kids[k] (List.getElem_mem hlt) q.kids[k]
    simp only [Tre.e_eq] at ihk
    repeat' first
     | with_reducible first | refine thenQ_n ?_ | refine thenQ_r ?_ | refine thenQ_e ?_ | refine blockQ_n ?_ | refine blockQ_r ?_ | refine blockQ_e ?_ | refine tri_seq fun K hK => ?_ | refine tri_skip ?_ | refine tri_ret ?_ | refine tri_exit ?_ | refine tri_block ?_ | refine tri_region ?_ | refine sq_nil ?_
     | refine blockQ_o ?_ (by rfl)
     | (with_reducible refine dr (id := 6) [0, 1, 2, 3, 4, 5, 6, 7, 8, 9, 10, 11] [] ?_)
     | ((first | with_reducible apply s_w | ((with_reducible apply d_w); (case ho => exact rfl))); (case hw => exact xWT); first | ((with_reducible first | apply sg_q | apply dg_q); (case hd => exact rfl); (case hn => exact rfl); (case he => (first | exact xE0 | ((with_reducible apply e_bi); (case hx => exact xDK); (case hy => exact xDK); (case hs => exact rfl); (case h => (simp only [binI, Int.reduceAdd, Int.reduceSub, Int.reduceMul, Int.reduceLT, Int.reduceLE, Int.reduceGT, Int.reduceEq, Int.reduceNeg, decide_true, decide_false, Bool.not_true, Bool.not_false, List.length_map, hd, hw, ixA_map hlt, ixA_map hlt']; with_reducible rfl))) | ((with_reducible apply e_ix); (case hx => exact xDK); (case hi => exact xDK); (case ht => exact xTY); (case hz => exact rfl); (case he => (simp only [List.length_map, hd, hw, ixA_map hlt, ixA_map hlt']; with_reducible rfl)); (case hc => exact xGS)) | ((with_reducible apply e_ln); (case hx => exact xDK); (case ht => exact xTY); (case hn => (first | (simp only [List.length_map, List.length_cons, List.length_nil, List.length_map, hd, hw, ixA_map hlt, ixA_map hlt']; with_reducible rfl) | rfl))) | ((with_reducible apply e_nt); (case hx => exact xDK); (case h => (first | (simp only [Bool.not_true, Bool.not_false, List.length_map, hd, hw, ixA_map hlt, ixA_map hlt']; with_reducible rfl) | rfl)))))) | ((first | with_reducible apply sg_k | ((with_reducible apply dg_k); (case hn => exact rfl))); (case ha => exact xDA); (case hfc => ((try simp only [List.length_map, hd, hw, ixA_map hlt, ixA_map hlt']); first | exact ihk | (have hq_ := ihk; simp only [Prd.e_eq, Trm.e, Val.e, Col.e, Tre.e_eq] at hq_; exact hq_))); (case hr => exact xRD)) | ((first | with_reducible apply sg_kv | ((with_reducible apply dg_kv); (case hn => exact rfl))); (case hv => exact rfl); (case ha => exact xDA); (case hl => exact xLs); (case hfc => ((try simp only [List.length_map, hd, hw, ixA_map hlt, ixA_map hlt']); first | exact ihk | (have hq_ := ihk; simp only [Prd.e_eq, Trm.e, Val.e, Col.e, Tre.e_eq] at hq_; exact hq_))); (case hr => exact xRD)) | (((with_reducible apply sg_bx); (case hn => exact rfl); (case hv => exact xLT); (case hc => exact xGS); (case hk => exact rfl))) | (((with_reducible apply sg_al); (case hn => exact rfl); (case hz => exact xTY); (case hc => exact xGS); (case hk => exact rfl))) | (((with_reducible apply sg_st); (case hx => exact xLK); (case hv => exact xLT); (case hc => exact xGS); (case hb => exact rfl); (case ht => exact xTY); (case hz => exact rfl); (case hs => exact xGS))) | (((with_reducible apply dg_al); (case hn => exact rfl); (case hz => exact xTY); (case hc => exact xGS))) | (((first | ((with_reducible apply sg_e); (case hc => (intros; simp))) | ((with_reducible apply dg_e); (case hd => exact rfl); (case hn => exact rfl))); (case hs => (simp only [go_sem, Nat.reduceBEq, Nat.reduceBNe, Nat.reduceLT, Nat.reduceGT, Int.reduceGT, Int.reduceMul, Int.reduceAdd, Int.reduceSub, Nat.reduceAdd, Nat.reduceMul, Nat.reduceLeDiff, Nat.reduceEqDiff, Nat.reduceSub, Int.reduceNeg, Int.reduceToNat, Int.reduceLT, Int.reduceLE, Int.reduceEq, Int.cast_ofNat_Int, decide_true, decide_false, Bool.not_true, Bool.not_false, Bool.and_self, reduceIte, reduceCtorEq, List.length_map, hd, hw, ixA_map hlt, ixA_map hlt']; with_reducible rfl)))))
     | ((first | with_reducible apply s_n | ((with_reducible apply d_n); (case ho => exact rfl))); (case hw => exact xWF); (case hd => exact rfl); (case hn => exact rfl))
     | ((with_reducible refine dq_nil ?_); apply d_end; (case hd => kernel_rfl); (case ht => exact xGS); (case hb => exact xGS); (case hk => exact xGS))
     | ((with_reducible apply qs_ct); (case hc => exact xLK); (case he => exact xHB))
     | ((with_reducible apply qs_cf); (case hc => exact xLK); (case he => exact xHB))
     | ((with_reducible apply qs_cond); (case hc => exact xLK); (case hu => exact xUK); all_goals (intro hb))
     | ((first | with_reducible apply s_if | ((with_reducible apply d_if); (case ho => exact rfl))); (case hg => exact rfl); (case hd => exact rfl); (case he => exact rfl); (case hu => exact xUK); all_goals (intro hb))
     | ((first | apply post_r | apply post_a); (case h1 => first | exact r1_t rfl rfl | (simp only [go_sem, Nat.reduceBEq, Nat.reduceBNe, Nat.reduceLT, Nat.reduceGT, Int.reduceGT, Int.reduceMul, Int.reduceAdd, Int.reduceSub, Nat.reduceAdd, Nat.reduceMul, Nat.reduceLeDiff, Nat.reduceEqDiff, Nat.reduceSub, Int.reduceNeg, Int.reduceToNat, Int.reduceLT, Int.reduceLE, Int.reduceEq, Int.cast_ofNat_Int, decide_true, decide_false, Bool.not_true, Bool.not_false, Bool.and_self, reduceIte, reduceCtorEq, List.length_map, hd, hw, ixA_map hlt, ixA_map hlt']; with_reducible rfl)); (case he => simp))
     | (refine hK _ ?_; clear hK)
     | (clear hK; refine hK _ ?_; clear hK)
     | (clear hK; clear hK; refine hK _ ?_; clear hK)
     | (clear hK; clear hK; clear hK; refine hK _ ?_; clear hK)
     | (clear hK; clear hK; clear hK; clear hK; refine hK _ ?_; clear hK)
     | fail
    all_goals (repeat (clear hK))
    · refine congrArg _ (Eq.symm ?_)
      rw [sameT_eq, eqT_at hlt hlt' (by simpa using hb), Bool.and_false]
    · refine ⟨k + 1, ⟨hlt, fun j hj hj' hjk => ?_⟩, by omega, le_of rfl (by simp [LeT, get, rT]) (by simp [LeT, get]) (by simp [LeK, memK])⟩
      by_cases e : j = k
      · subst e; simpa using hb
      · exact hk.2 j hj hj' (by omega)
  · have hd : decide ((k : Int) < (p.kids.length : Int)) = false := by simpa using hlt
    repeat' first
     | with_reducible first | refine thenQ_n ?_ | refine thenQ_r ?_ | refine thenQ_e ?_ | refine blockQ_n ?_ | refine blockQ_r ?_ | refine blockQ_e ?_ | refine tri_seq fun K hK => ?_ | refine tri_skip ?_ | refine tri_ret ?_ | refine tri_exit ?_ | refine tri_block ?_ | refine tri_region ?_ | refine sq_nil ?_
     | refine blockQ_o ?_ (by rfl)
     | (with_reducible refine dr (id := 6) [0, 1, 2, 3, 4, 5, 6, 7, 8, 9, 10, 11] [] ?_)
     | ((first | with_reducible apply s_w | ((with_reducible apply d_w); (case ho => exact rfl))); (case hw => exact xWT); first | ((with_reducible first | apply sg_q | apply dg_q); (case hd => exact rfl); (case hn => exact rfl); (case he => (first | exact xE0 | ((with_reducible apply e_bi); (case hx => exact xDK); (case hy => exact xDK); (case hs => exact rfl); (case h => (simp only [binI, Int.reduceAdd, Int.reduceSub, Int.reduceMul, Int.reduceLT, Int.reduceLE, Int.reduceGT, Int.reduceEq, Int.reduceNeg, decide_true, decide_false, Bool.not_true, Bool.not_false, List.length_map, hd]; with_reducible rfl))) | ((with_reducible apply e_ix); (case hx => exact xDK); (case hi => exact xDK); (case ht => exact xTY); (case hz => exact rfl); (case he => (simp only [List.length_map, hd]; with_reducible rfl)); (case hc => exact xGS)) | ((with_reducible apply e_ln); (case hx => exact xDK); (case ht => exact xTY); (case hn => (first | (simp only [List.length_map, List.length_cons, List.length_nil, List.length_map, hd]; with_reducible rfl) | rfl))) | ((with_reducible apply e_nt); (case hx => exact xDK); (case h => (first | (simp only [Bool.not_true, Bool.not_false, List.length_map, hd]; with_reducible rfl) | rfl)))))) | (((with_reducible apply sg_bx); (case hn => exact rfl); (case hv => exact xLT); (case hc => exact xGS); (case hk => exact rfl))) | (((with_reducible apply sg_al); (case hn => exact rfl); (case hz => exact xTY); (case hc => exact xGS); (case hk => exact rfl))) | (((with_reducible apply sg_st); (case hx => exact xLK); (case hv => exact xLT); (case hc => exact xGS); (case hb => exact rfl); (case ht => exact xTY); (case hz => exact rfl); (case hs => exact xGS))) | (((with_reducible apply dg_al); (case hn => exact rfl); (case hz => exact xTY); (case hc => exact xGS))) | (((first | ((with_reducible apply sg_e); (case hc => (intros; simp))) | ((with_reducible apply dg_e); (case hd => exact rfl); (case hn => exact rfl))); (case hs => (simp only [go_sem, Nat.reduceBEq, Nat.reduceBNe, Nat.reduceLT, Nat.reduceGT, Int.reduceGT, Int.reduceMul, Int.reduceAdd, Int.reduceSub, Nat.reduceAdd, Nat.reduceMul, Nat.reduceLeDiff, Nat.reduceEqDiff, Nat.reduceSub, Int.reduceNeg, Int.reduceToNat, Int.reduceLT, Int.reduceLE, Int.reduceEq, Int.cast_ofNat_Int, decide_true, decide_false, Bool.not_true, Bool.not_false, Bool.and_self, reduceIte, reduceCtorEq, List.length_map, hd]; with_reducible rfl)))))
     | ((first | with_reducible apply s_n | ((with_reducible apply d_n); (case ho => exact rfl))); (case hw => exact xWF); (case hd => exact rfl); (case hn => exact rfl))
     | ((with_reducible refine dq_nil ?_); apply d_end; (case hd => kernel_rfl); (case ht => exact xGS); (case hb => exact xGS); (case hk => exact xGS))
     | ((with_reducible apply qs_ct); (case hc => exact xLK); (case he => exact xHB))
     | ((with_reducible apply qs_cf); (case hc => exact xLK); (case he => exact xHB))
     | ((with_reducible apply qs_cond); (case hc => exact xLK); (case hu => exact xUK); all_goals (intro hb))
     | ((first | with_reducible apply s_if | ((with_reducible apply d_if); (case ho => exact rfl))); (case hg => exact rfl); (case hd => exact rfl); (case he => exact rfl); (case hu => exact xUK); all_goals (intro hb))
     | ((first | apply post_r | apply post_a); (case h1 => first | exact r1_t rfl rfl | (simp only [go_sem, Nat.reduceBEq, Nat.reduceBNe, Nat.reduceLT, Nat.reduceGT, Int.reduceGT, Int.reduceMul, Int.reduceAdd, Int.reduceSub, Nat.reduceAdd, Nat.reduceMul, Nat.reduceLeDiff, Nat.reduceEqDiff, Nat.reduceSub, Int.reduceNeg, Int.reduceToNat, Int.reduceLT, Int.reduceLE, Int.reduceEq, Int.cast_ofNat_Int, decide_true, decide_false, Bool.not_true, Bool.not_false, Bool.and_self, reduceIte, reduceCtorEq, List.length_map, hd]; with_reducible rfl)); (case he => simp))
     | (refine hK _ ?_; clear hK)
     | (clear hK; refine hK _ ?_; clear hK)
     | (clear hK; clear hK; refine hK _ ?_; clear hK)
     | (clear hK; clear hK; clear hK; refine hK _ ?_; clear hK)
     | (clear hK; clear hK; clear hK; clear hK; refine hK _ ?_; clear hK)
     | fail
    all_goals (repeat (clear hK))
    refine congrArg _ (Eq.symm ?_)
    rw [sameT_eq, hbase, eqT_all he fun j hj hj' => hk.2 j hj hj' (by omega)]
    rfl

set_option maxHeartbeats 4000000 in
theorem c_copyT (p : Tre) (hn : wtT p ≤ 1000000) : FC Try.prog 20 [p.e] (.v p.e) := by
  revert hn
  induction p using Tre.ind
  rename_i p ih
  intro hn
  have hn2 := hn
  rw [wtT_eq] at hn2
  have hge := gathL_ge p.conj
  have hgk := wtL_ge p.kids
  refine fc_of_body (nt := 40) (rs := [.cell 2 25]) (ts := [(0, _)]) Try.func20 rfl rfl rfl rfl (by decide) (Nat.le_of_ble_eq_true rfl) ?_
  repeat' first
   | with_reducible first | refine thenQ_n ?_ | refine thenQ_r ?_ | refine thenQ_e ?_ | refine blockQ_n ?_ | refine blockQ_r ?_ | refine blockQ_e ?_ | refine tri_seq fun K hK => ?_ | refine tri_skip ?_ | refine tri_ret ?_ | refine tri_exit ?_ | refine tri_block ?_ | refine tri_region ?_ | refine sq_nil ?_
   | refine blockQ_o ?_ (by rfl)
   | ((with_reducible apply s_w); (case hw => exact xWT); first | ((with_reducible apply sg_q); (case hd => exact rfl); (case hn => exact rfl); (case he => (first | exact xE0 | ((with_reducible apply e_bi); (case hx => exact xDK); (case hy => exact xDK); (case hs => exact rfl); (case h => (simp only [binI, Int.reduceAdd, Int.reduceSub, Int.reduceMul, Int.reduceLT, Int.reduceLE, Int.reduceGT, Int.reduceEq, Int.reduceNeg, decide_true, decide_false, Bool.not_true, Bool.not_false]; with_reducible rfl))) | ((with_reducible apply e_ix); (case hx => exact xDK); (case hi => exact xDK); (case ht => exact xTY); (case hz => exact rfl); (case he => (simp only [go_sem]; with_reducible rfl)); (case hc => exact xGS)) | ((with_reducible apply e_ln); (case hx => exact xDK); (case ht => exact xTY); (case hn => (first | (simp only [List.length_map, List.length_cons, List.length_nil]; with_reducible rfl) | rfl))) | ((with_reducible apply e_nt); (case hx => exact xDK); (case h => (first | (simp only [Bool.not_true, Bool.not_false]; with_reducible rfl) | rfl)))))) | (((with_reducible apply sg_bx); (case hn => exact rfl); (case hv => exact xLT); (case hc => exact xGS); (case hk => exact rfl))) | (((with_reducible apply sg_al); (case hn => exact rfl); (case hz => exact xTY); (case hc => exact xGS); (case hk => exact rfl))) | (((with_reducible apply sg_st); (case hx => exact xLK); (case hv => exact xLT); (case hc => exact xGS); (case hb => exact rfl); (case ht => exact xTY); (case hz => exact rfl); (case hs => exact xGS))) | (((with_reducible apply sg_e); (case hc => (intros; simp)); (case hs => (simp only [go_sem, Nat.reduceBEq, Nat.reduceBNe, Nat.reduceLT, Nat.reduceGT, Int.reduceGT, Int.reduceMul, Int.reduceAdd, Int.reduceSub, Nat.reduceAdd, Nat.reduceMul, Nat.reduceLeDiff, Nat.reduceEqDiff, Nat.reduceSub, Int.reduceNeg, Int.reduceToNat, Int.reduceLT, Int.reduceLE, Int.reduceEq, Int.cast_ofNat_Int, decide_true, decide_false, Bool.not_true, Bool.not_false, Bool.and_self, reduceIte, reduceCtorEq]; with_reducible rfl)))))
   | ((with_reducible apply s_n); (case hw => exact xWF); (case hd => exact rfl); (case hn => exact rfl))
   | ((with_reducible apply qs_ct); (case hc => exact xLK); (case he => exact xHB))
   | ((with_reducible apply qs_cf); (case hc => exact xLK); (case he => exact xHB))
   | ((with_reducible apply qs_cond); (case hc => exact xLK); (case hu => exact xUK); all_goals (intro hb))
   | ((with_reducible apply s_if); (case hg => exact rfl); (case hd => exact rfl); (case he => exact rfl); (case hu => exact xUK); all_goals (intro hb))
   | ((first | apply post_r | apply post_a); (case h1 => first | exact r1_t rfl rfl | (simp only [go_sem, Nat.reduceBEq, Nat.reduceBNe, Nat.reduceLT, Nat.reduceGT, Int.reduceGT, Int.reduceMul, Int.reduceAdd, Int.reduceSub, Nat.reduceAdd, Nat.reduceMul, Nat.reduceLeDiff, Nat.reduceEqDiff, Nat.reduceSub, Int.reduceNeg, Int.reduceToNat, Int.reduceLT, Int.reduceLE, Int.reduceEq, Int.cast_ofNat_Int, decide_true, decide_false, Bool.not_true, Bool.not_false, Bool.and_self, reduceIte, reduceCtorEq]; with_reducible rfl)); (case he => simp))
   | (refine hK _ ?_; clear hK)
   | (clear hK; refine hK _ ?_; clear hK)
   | (clear hK; clear hK; refine hK _ ?_; clear hK)
   | (clear hK; clear hK; clear hK; refine hK _ ?_; clear hK)
   | (clear hK; clear hK; clear hK; clear hK; refine hK _ ?_; clear hK)
   | fail
  refine tri_for (fun q : Nat × Nat => ⟨40, [(12, .v (.int .i64 (q.1 : Int))), (11, .v (.int .i64 (p.conj.length : Int))), (10, .v (prdsE p.conj)), (3, .ap 14 ((p.conj.take q.1).map Prd.e) q.2), (2, .loc 2 0), (1, .loc 1 0)], [(1, [.v (.int .i64 p.kind), .v (.int .i64 p.table), .v (.sl 5 (p.kids.map Tre.e)), .v (.sl 14 (p.conj.map Prd.e)), .v (.bool p.hash)]), (2, [.v (.int .i64 0), .v (.int .i64 0), .ap 5 [] 999999, .ap 14 [] 999999, .v (.bool false)])], bif q.2 == 999999 then [] else [q.2]⟩)
    (fun q => q.1 ≤ p.conj.length ∧ (q.2 = 999999 ∨ q.2 = 20)) (fun q => p.conj.length - q.1) (0, 999999) ?_ ⟨Nat.zero_le _, .inl rfl⟩ ?_
  · exact le_of rfl (by simp [LeT, get]) (by simp [LeT, get]) (by simp [LeK, memK])
  rintro ⟨k, s⟩ ⟨hk, hs⟩
  simp only at hk hs
  by_cases hlt : k < p.conj.length
  · have hm : p.conj.length ≤ 9223372036854775807 := by omega
    have hd : decide ((k : Int) < ((p.conj.length : Nat) : Int)) = true := by simpa using hlt
    have hw := wrap_succ hlt hm
    have hkl : (p.conj.take k).length = k := by rw [List.length_take]; omega
    have b1 : (k + 1) * 128 ≤ 140737488355328 := by omega
    have b2 : k + 1 ≤ 9223372036854775807 := by omega
    have ihk := c_copy p.conj[k] (by have := gathL_mem (List.getElem_mem hlt); omega)
    simp only [Prd.e_eq] at ihk
    rcases hs with rfl | rfl
    all_goals
      repeat' first
       | with_reducible first | refine thenQ_n ?_ | refine thenQ_r ?_ | refine thenQ_e ?_ | refine blockQ_n ?_ | refine blockQ_r ?_ | refine blockQ_e ?_ | refine tri_seq fun K hK => ?_ | refine tri_skip ?_ | refine tri_ret ?_ | refine tri_exit ?_ | refine tri_block ?_ | refine tri_region ?_ | refine sq_nil ?_
       | refine blockQ_o ?_ (by rfl)
       | ((with_reducible apply s_w); (case hw => exact xWT); first | ((with_reducible apply sg_q); (case hd => exact rfl); (case hn => exact rfl); (case he => (first | exact xE0 | ((with_reducible apply e_bi); (case hx => exact xDK); (case hy => exact xDK); (case hs => exact rfl); (case h => (simp only [binI, Int.reduceAdd, Int.reduceSub, Int.reduceMul, Int.reduceLT, Int.reduceLE, Int.reduceGT, Int.reduceEq, Int.reduceNeg, decide_true, decide_false, Bool.not_true, Bool.not_false, List.length_map, hkl, hd, hw, b1, b2, ixA_map hlt]; with_reducible rfl))) | ((with_reducible apply e_ix); (case hx => exact xDK); (case hi => exact xDK); (case ht => exact xTY); (case hz => exact rfl); (case he => (simp only [List.length_map, hkl, hd, hw, b1, b2, ixA_map hlt]; with_reducible rfl)); (case hc => exact xGS)) | ((with_reducible apply e_ln); (case hx => exact xDK); (case ht => exact xTY); (case hn => (first | (simp only [List.length_map, List.length_cons, List.length_nil, List.length_map, hkl, hd, hw, b1, b2, ixA_map hlt]; with_reducible rfl) | rfl))) | ((with_reducible apply e_nt); (case hx => exact xDK); (case h => (first | (simp only [Bool.not_true, Bool.not_false, List.length_map, hkl, hd, hw, b1, b2, ixA_map hlt]; with_reducible rfl) | rfl)))))) | (((with_reducible apply sg_k); (case ha => exact xDA); (case hfc => ((try simp only [List.length_map, hkl, hd, hw, b1, b2, ixA_map hlt]); first | exact ihk | (have hq_ := ihk; simp only [Prd.e_eq, Trm.e, Val.e, Col.e, Tre.e_eq] at hq_; exact hq_))); (case hr => exact xRT))) | ((with_reducible apply sg_kv); (case hv => exact rfl); (case ha => exact xDA); (case hl => exact xLs); (case hfc => ((try simp only [List.length_map, hkl, hd, hw, b1, b2, ixA_map hlt]); first | exact ihk | (have hq_ := ihk; simp only [Prd.e_eq, Trm.e, Val.e, Col.e, Tre.e_eq] at hq_; exact hq_))); (case hr => exact xRT)) | (((with_reducible apply sg_bx); (case hn => exact rfl); (case hv => exact xLT); (case hc => exact xGS); (case hk => exact rfl))) | (((with_reducible apply sg_al); (case hn => exact rfl); (case hz => exact xTY); (case hc => exact xGS); (case hk => exact rfl))) | (((with_reducible apply sg_st); (case hx => exact xLK); (case hv => exact xLT); (case hc => exact xGS); (case hb => exact rfl); (case ht => exact xTY); (case hz => exact rfl); (case hs => exact xGS))) | (((with_reducible apply sg_e); (case hc => (intros; simp)); (case hs => (simp only [go_sem, Nat.reduceBEq, Nat.reduceBNe, Nat.reduceLT, Nat.reduceGT, Int.reduceGT, Int.reduceMul, Int.reduceAdd, Int.reduceSub, Nat.reduceAdd, Nat.reduceMul, Nat.reduceLeDiff, Nat.reduceEqDiff, Nat.reduceSub, Int.reduceNeg, Int.reduceToNat, Int.reduceLT, Int.reduceLE, Int.reduceEq, Int.cast_ofNat_Int, decide_true, decide_false, Bool.not_true, Bool.not_false, Bool.and_self, reduceIte, reduceCtorEq, List.length_map, hkl, hd, hw, b1, b2, ixA_map hlt]; with_reducible rfl)))))
       | ((with_reducible apply s_n); (case hw => exact xWF); (case hd => exact rfl); (case hn => exact rfl))
       | ((with_reducible apply qs_ct); (case hc => exact xLK); (case he => exact xHB))
       | ((with_reducible apply qs_cf); (case hc => exact xLK); (case he => exact xHB))
       | ((with_reducible apply qs_cond); (case hc => exact xLK); (case hu => exact xUK); all_goals (intro hb))
       | ((with_reducible apply s_if); (case hg => exact rfl); (case hd => exact rfl); (case he => exact rfl); (case hu => exact xUK); all_goals (intro hb))
       | ((first | apply post_r | apply post_a); (case h1 => first | exact r1_t rfl rfl | (simp only [go_sem, Nat.reduceBEq, Nat.reduceBNe, Nat.reduceLT, Nat.reduceGT, Int.reduceGT, Int.reduceMul, Int.reduceAdd, Int.reduceSub, Nat.reduceAdd, Nat.reduceMul, Nat.reduceLeDiff, Nat.reduceEqDiff, Nat.reduceSub, Int.reduceNeg, Int.reduceToNat, Int.reduceLT, Int.reduceLE, Int.reduceEq, Int.cast_ofNat_Int, decide_true, decide_false, Bool.not_true, Bool.not_false, Bool.and_self, reduceIte, reduceCtorEq, List.length_map, hkl, hd, hw, b1, b2, ixA_map hlt]; with_reducible rfl)); (case he => simp))
       | (refine hK _ ?_; clear hK)
       | (clear hK; refine hK _ ?_; clear hK)
       | (clear hK; clear hK; refine hK _ ?_; clear hK)
       | (clear hK; clear hK; clear hK; refine hK _ ?_; clear hK)
       | (clear hK; clear hK; clear hK; clear hK; refine hK _ ?_; clear hK)
       | fail
    all_goals (repeat (clear hK))
    all_goals
      refine ⟨(k + 1, 20), ⟨hlt, .inr rfl⟩, by simp only; omega, le_of rfl ?_ (by simp [LeT, get]) (by simp [LeK, memK])⟩
      rw [List.take_succ_eq_append_getElem hlt]
      simp only [go_sem, Nat.reduceBEq, List.map_append]
  · have hd : decide ((k : Int) < ((p.conj.length : Nat) : Int)) = false := by simpa using hlt
    obtain rfl : k = p.conj.length := by omega
    have hm : p.kids.length ≤ 9223372036854775807 := by omega
    have htk : p.conj.take p.conj.length = p.conj := List.take_length
    rcases hs with rfl | rfl
    · clear hd
      have hd : decide (((p.conj.length : Nat) : Int) < ((p.conj.length : Nat) : Int)) = false := by simp
      repeat' first
       | with_reducible first | refine thenQ_n ?_ | refine thenQ_r ?_ | refine thenQ_e ?_ | refine blockQ_n ?_ | refine blockQ_r ?_ | refine blockQ_e ?_ | refine tri_seq fun K hK => ?_ | refine tri_skip ?_ | refine tri_ret ?_ | refine tri_exit ?_ | refine tri_block ?_ | refine tri_region ?_ | refine sq_nil ?_
       | refine blockQ_o ?_ (by rfl)
       | ((with_reducible apply s_w); (case hw => exact xWT); first | ((with_reducible apply sg_q); (case hd => exact rfl); (case hn => exact rfl); (case he => (first | exact xE0 | ((with_reducible apply e_bi); (case hx => exact xDK); (case hy => exact xDK); (case hs => exact rfl); (case h => (simp only [binI, Int.reduceAdd, Int.reduceSub, Int.reduceMul, Int.reduceLT, Int.reduceLE, Int.reduceGT, Int.reduceEq, Int.reduceNeg, decide_true, decide_false, Bool.not_true, Bool.not_false, List.length_map, hd, htk]; with_reducible rfl))) | ((with_reducible apply e_ix); (case hx => exact xDK); (case hi => exact xDK); (case ht => exact xTY); (case hz => exact rfl); (case he => (simp only [List.length_map, hd, htk]; with_reducible rfl)); (case hc => exact xGS)) | ((with_reducible apply e_ln); (case hx => exact xDK); (case ht => exact xTY); (case hn => (first | (simp only [List.length_map, List.length_cons, List.length_nil, List.length_map, hd, htk]; with_reducible rfl) | rfl))) | ((with_reducible apply e_nt); (case hx => exact xDK); (case h => (first | (simp only [Bool.not_true, Bool.not_false, List.length_map, hd, htk]; with_reducible rfl) | rfl)))))) | (((with_reducible apply sg_bx); (case hn => exact rfl); (case hv => exact xLT); (case hc => exact xGS); (case hk => exact rfl))) | (((with_reducible apply sg_al); (case hn => exact rfl); (case hz => exact xTY); (case hc => exact xGS); (case hk => exact rfl))) | (((with_reducible apply sg_st); (case hx => exact xLK); (case hv => exact xLT); (case hc => exact xGS); (case hb => exact rfl); (case ht => exact xTY); (case hz => exact rfl); (case hs => exact xGS))) | (((with_reducible apply sg_e); (case hc => (intros; simp)); (case hs => (simp only [go_sem, Nat.reduceBEq, Nat.reduceBNe, Nat.reduceLT, Nat.reduceGT, Int.reduceGT, Int.reduceMul, Int.reduceAdd, Int.reduceSub, Nat.reduceAdd, Nat.reduceMul, Nat.reduceLeDiff, Nat.reduceEqDiff, Nat.reduceSub, Int.reduceNeg, Int.reduceToNat, Int.reduceLT, Int.reduceLE, Int.reduceEq, Int.cast_ofNat_Int, decide_true, decide_false, Bool.not_true, Bool.not_false, Bool.and_self, reduceIte, reduceCtorEq, List.length_map, hd, htk]; with_reducible rfl)))))
       | ((with_reducible apply s_n); (case hw => exact xWF); (case hd => exact rfl); (case hn => exact rfl))
       | ((with_reducible apply qs_ct); (case hc => exact xLK); (case he => exact xHB))
       | ((with_reducible apply qs_cf); (case hc => exact xLK); (case he => exact xHB))
       | ((with_reducible apply qs_cond); (case hc => exact xLK); (case hu => exact xUK); all_goals (intro hb))
       | ((with_reducible apply s_if); (case hg => exact rfl); (case hd => exact rfl); (case he => exact rfl); (case hu => exact xUK); all_goals (intro hb))
       | ((first | apply post_r | apply post_a); (case h1 => first | exact r1_t rfl rfl | (simp only [go_sem, Nat.reduceBEq, Nat.reduceBNe, Nat.reduceLT, Nat.reduceGT, Int.reduceGT, Int.reduceMul, Int.reduceAdd, Int.reduceSub, Nat.reduceAdd, Nat.reduceMul, Nat.reduceLeDiff, Nat.reduceEqDiff, Nat.reduceSub, Int.reduceNeg, Int.reduceToNat, Int.reduceLT, Int.reduceLE, Int.reduceEq, Int.cast_ofNat_Int, decide_true, decide_false, Bool.not_true, Bool.not_false, Bool.and_self, reduceIte, reduceCtorEq, List.length_map, hd, htk]; with_reducible rfl)); (case he => simp))
       | (refine hK _ ?_; clear hK)
       | (clear hK; refine hK _ ?_; clear hK)
       | (clear hK; clear hK; refine hK _ ?_; clear hK)
       | (clear hK; clear hK; clear hK; refine hK _ ?_; clear hK)
       | (clear hK; clear hK; clear hK; clear hK; refine hK _ ?_; clear hK)
       | fail
      refine tri_for (fun q : Nat × Nat => ⟨40, [(25, .v (.int .i64 (q.1 : Int))), (24, .v (.int .i64 (p.kids.length : Int))), (23, .v (tresE p.kids)), (6, .ap 5 ((p.kids.take q.1).map Tre.e) q.2), (3, .ap 14 (p.conj.map Prd.e) 999999), (2, .loc 2 0), (1, .loc 1 0)], [(1, [.v (.int .i64 p.kind), .v (.int .i64 p.table), .v (.sl 5 (p.kids.map Tre.e)), .v (.sl 14 (p.conj.map Prd.e)), .v (.bool p.hash)]), (2, [.v (.int .i64 0), .v (.int .i64 0), .ap 5 [] 999999, .ap 14 [] 999999, .v (.bool false)])], bif q.2 == 999999 then [] else [q.2]⟩)
        (fun q => q.1 ≤ p.kids.length ∧ (q.2 = 999999 ∨ q.2 = 33)) (fun q => p.kids.length - q.1) (0, 999999) ?_ ⟨Nat.zero_le _, .inl rfl⟩ ?_
      · exact le_of rfl (by simp [LeT, get]) (by simp [LeT, get]) (by simp [LeK, memK])
      rintro ⟨k, s⟩ ⟨hk, hs⟩
      simp only at hk hs
      by_cases hlt : k < p.kids.length
      · have hd : decide ((k : Int) < ((p.kids.length : Nat) : Int)) = true := by simpa using hlt
        have hw := wrap_succ hlt hm
        have hkl : (p.kids.take k).length = k := by rw [List.length_take]; omega
        have b1 : (k + 1) * 72 ≤ 140737488355328 := by omega
        have b2 : k + 1 ≤ 9223372036854775807 := by omega
        have ihk := ih p.kids[k] (List.getElem_mem hlt) (by have := wtL_mem (List.getElem_mem hlt); omega)
        simp only [Tre.e_eq] at ihk
        rcases hs with rfl | rfl
        all_goals
          repeat' first
           | with_reducible first | refine thenQ_n ?_ | refine thenQ_r ?_ | refine thenQ_e ?_ | refine blockQ_n ?_ | refine blockQ_r ?_ | refine blockQ_e ?_ | refine tri_seq fun K hK => ?_ | refine tri_skip ?_ | refine tri_ret ?_ | refine tri_exit ?_ | refine tri_block ?_ | refine tri_region ?_ | refine sq_nil ?_
           | refine blockQ_o ?_ (by rfl)
           | ((with_reducible apply s_w); (case hw => exact xWT); first | ((with_reducible apply sg_q); (case hd => exact rfl); (case hn => exact rfl); (case he => (first | exact xE0 | ((with_reducible apply e_bi); (case hx => exact xDK); (case hy => exact xDK); (case hs => exact rfl); (case h => (simp only [binI, Int.reduceAdd, Int.reduceSub, Int.reduceMul, Int.reduceLT, Int.reduceLE, Int.reduceGT, Int.reduceEq, Int.reduceNeg, decide_true, decide_false, Bool.not_true, Bool.not_false, List.length_map, hkl, hd, hw, b1, b2, ixA_map hlt]; with_reducible rfl))) | ((with_reducible apply e_ix); (case hx => exact xDK); (case hi => exact xDK); (case ht => exact xTY); (case hz => exact rfl); (case he => (simp only [List.length_map, hkl, hd, hw, b1, b2, ixA_map hlt]; with_reducible rfl)); (case hc => exact xGS)) | ((with_reducible apply e_ln); (case hx => exact xDK); (case ht => exact xTY); (case hn => (first | (simp only [List.length_map, List.length_cons, List.length_nil, List.length_map, hkl, hd, hw, b1, b2, ixA_map hlt]; with_reducible rfl) | rfl))) | ((with_reducible apply e_nt); (case hx => exact xDK); (case h => (first | (simp only [Bool.not_true, Bool.not_false, List.length_map, hkl, hd, hw, b1, b2, ixA_map hlt]; with_reducible rfl) | rfl)))))) | (((with_reducible apply sg_k); (case ha => exact xDA); (case hfc => ((try simp only [List.length_map, hkl, hd, hw, b1, b2, ixA_map hlt]); first | exact ihk | (have hq_ := ihk; simp only [Prd.e_eq, Trm.e, Val.e, Col.e, Tre.e_eq] at hq_; exact hq_))); (case hr => exact xRT))) | ((with_reducible apply sg_kv); (case hv => exact rfl); (case ha => exact xDA); (case hl => exact xLs); (case hfc => ((try simp only [List.length_map, hkl, hd, hw, b1, b2, ixA_map hlt]); first | exact ihk | (have hq_ := ihk; simp only [Prd.e_eq, Trm.e, Val.e, Col.e, Tre.e_eq] at hq_; exact hq_))); (case hr => exact xRT)) | (((with_reducible apply sg_bx); (case hn => exact rfl); (case hv => exact xLT); (case hc => exact xGS); (case hk => exact rfl))) | (((with_reducible apply sg_al); (case hn => exact rfl); (case hz => exact xTY); (case hc => exact xGS); (case hk => exact rfl))) | (((with_reducible apply sg_st); (case hx => exact xLK); (case hv => exact xLT); (case hc => exact xGS); (case hb => exact rfl); (case ht => exact xTY); (case hz => exact rfl); (case hs => exact xGS))) | (((with_reducible apply sg_e); (case hc => (intros; simp)); (case hs => (simp only [go_sem, Nat.reduceBEq, Nat.reduceBNe, Nat.reduceLT, Nat.reduceGT, Int.reduceGT, Int.reduceMul, Int.reduceAdd, Int.reduceSub, Nat.reduceAdd, Nat.reduceMul, Nat.reduceLeDiff, Nat.reduceEqDiff, Nat.reduceSub, Int.reduceNeg, Int.reduceToNat, Int.reduceLT, Int.reduceLE, Int.reduceEq, Int.cast_ofNat_Int, decide_true, decide_false, Bool.not_true, Bool.not_false, Bool.and_self, reduceIte, reduceCtorEq, List.length_map, hkl, hd, hw, b1, b2, ixA_map hlt]; with_reducible rfl)))))
           | ((with_reducible apply s_n); (case hw => exact xWF); (case hd => exact rfl); (case hn => exact rfl))
           | ((with_reducible apply qs_ct); (case hc => exact xLK); (case he => exact xHB))
           | ((with_reducible apply qs_cf); (case hc => exact xLK); (case he => exact xHB))
           | ((with_reducible apply qs_cond); (case hc => exact xLK); (case hu => exact xUK); all_goals (intro hb))
           | ((with_reducible apply s_if); (case hg => exact rfl); (case hd => exact rfl); (case he => exact rfl); (case hu => exact xUK); all_goals (intro hb))
           | ((first | apply post_r | apply post_a); (case h1 => first | exact r1_t rfl rfl | (simp only [go_sem, Nat.reduceBEq, Nat.reduceBNe, Nat.reduceLT, Nat.reduceGT, Int.reduceGT, Int.reduceMul, Int.reduceAdd, Int.reduceSub, Nat.reduceAdd, Nat.reduceMul, Nat.reduceLeDiff, Nat.reduceEqDiff, Nat.reduceSub, Int.reduceNeg, Int.reduceToNat, Int.reduceLT, Int.reduceLE, Int.reduceEq, Int.cast_ofNat_Int, decide_true, decide_false, Bool.not_true, Bool.not_false, Bool.and_self, reduceIte, reduceCtorEq, List.length_map, hkl, hd, hw, b1, b2, ixA_map hlt]; with_reducible rfl)); (case he => simp))
           | (refine hK _ ?_; clear hK)
           | (clear hK; refine hK _ ?_; clear hK)
           | (clear hK; clear hK; refine hK _ ?_; clear hK)
           | (clear hK; clear hK; clear hK; refine hK _ ?_; clear hK)
           | (clear hK; clear hK; clear hK; clear hK; refine hK _ ?_; clear hK)
           | fail
        all_goals (repeat (clear hK))
        all_goals
          refine ⟨(k + 1, 33), ⟨hlt, .inr rfl⟩, by simp only; omega, le_of rfl ?_ (by simp [LeT, get]) (by simp [LeK, memK])⟩
          rw [List.take_succ_eq_append_getElem hlt]
          simp only [go_sem, Nat.reduceBEq, List.map_append]
      · have hd : decide ((k : Int) < ((p.kids.length : Nat) : Int)) = false := by simpa using hlt
        obtain rfl : k = p.kids.length := by omega
        rcases hs with rfl | rfl
        all_goals
          repeat' first
           | with_reducible first | refine thenQ_n ?_ | refine thenQ_r ?_ | refine thenQ_e ?_ | refine blockQ_n ?_ | refine blockQ_r ?_ | refine blockQ_e ?_ | refine tri_seq fun K hK => ?_ | refine tri_skip ?_ | refine tri_ret ?_ | refine tri_exit ?_ | refine tri_block ?_ | refine tri_region ?_ | refine sq_nil ?_
           | refine blockQ_o ?_ (by rfl)
           | ((with_reducible apply s_w); (case hw => exact xWT); first | ((with_reducible apply sg_q); (case hd => exact rfl); (case hn => exact rfl); (case he => (first | exact xE0 | ((with_reducible apply e_bi); (case hx => exact xDK); (case hy => exact xDK); (case hs => exact rfl); (case h => (simp only [binI, Int.reduceAdd, Int.reduceSub, Int.reduceMul, Int.reduceLT, Int.reduceLE, Int.reduceGT, Int.reduceEq, Int.reduceNeg, decide_true, decide_false, Bool.not_true, Bool.not_false, List.length_map, hd, List.take_length]; with_reducible rfl))) | ((with_reducible apply e_ix); (case hx => exact xDK); (case hi => exact xDK); (case ht => exact xTY); (case hz => exact rfl); (case he => (simp only [List.length_map, hd, List.take_length]; with_reducible rfl)); (case hc => exact xGS)) | ((with_reducible apply e_ln); (case hx => exact xDK); (case ht => exact xTY); (case hn => (first | (simp only [List.length_map, List.length_cons, List.length_nil, List.length_map, hd, List.take_length]; with_reducible rfl) | rfl))) | ((with_reducible apply e_nt); (case hx => exact xDK); (case h => (first | (simp only [Bool.not_true, Bool.not_false, List.length_map, hd, List.take_length]; with_reducible rfl) | rfl)))))) | (((with_reducible apply sg_bx); (case hn => exact rfl); (case hv => exact xLT); (case hc => exact xGS); (case hk => exact rfl))) | (((with_reducible apply sg_al); (case hn => exact rfl); (case hz => exact xTY); (case hc => exact xGS); (case hk => exact rfl))) | (((with_reducible apply sg_st); (case hx => exact xLK); (case hv => exact xLT); (case hc => exact xGS); (case hb => exact rfl); (case ht => exact xTY); (case hz => exact rfl); (case hs => exact xGS))) | (((with_reducible apply sg_e); (case hc => (intros; simp)); (case hs => (simp only [go_sem, Nat.reduceBEq, Nat.reduceBNe, Nat.reduceLT, Nat.reduceGT, Int.reduceGT, Int.reduceMul, Int.reduceAdd, Int.reduceSub, Nat.reduceAdd, Nat.reduceMul, Nat.reduceLeDiff, Nat.reduceEqDiff, Nat.reduceSub, Int.reduceNeg, Int.reduceToNat, Int.reduceLT, Int.reduceLE, Int.reduceEq, Int.cast_ofNat_Int, decide_true, decide_false, Bool.not_true, Bool.not_false, Bool.and_self, reduceIte, reduceCtorEq, List.length_map, hd, List.take_length]; with_reducible rfl)))))
           | ((with_reducible apply s_n); (case hw => exact xWF); (case hd => exact rfl); (case hn => exact rfl))
           | ((with_reducible apply qs_ct); (case hc => exact xLK); (case he => exact xHB))
           | ((with_reducible apply qs_cf); (case hc => exact xLK); (case he => exact xHB))
           | ((with_reducible apply qs_cond); (case hc => exact xLK); (case hu => exact xUK); all_goals (intro hb))
           | ((with_reducible apply s_if); (case hg => exact rfl); (case hd => exact rfl); (case he => exact rfl); (case hu => exact xUK); all_goals (intro hb))
           | ((first | apply post_r | apply post_a); (case h1 => first | exact r1_t rfl rfl | (simp only [go_sem, Nat.reduceBEq, Nat.reduceBNe, Nat.reduceLT, Nat.reduceGT, Int.reduceGT, Int.reduceMul, Int.reduceAdd, Int.reduceSub, Nat.reduceAdd, Nat.reduceMul, Nat.reduceLeDiff, Nat.reduceEqDiff, Nat.reduceSub, Int.reduceNeg, Int.reduceToNat, Int.reduceLT, Int.reduceLE, Int.reduceEq, Int.cast_ofNat_Int, decide_true, decide_false, Bool.not_true, Bool.not_false, Bool.and_self, reduceIte, reduceCtorEq, List.length_map, hd, List.take_length]; with_reducible rfl)); (case he => simp))
           | (refine hK _ ?_; clear hK)
           | (clear hK; refine hK _ ?_; clear hK)
           | (clear hK; clear hK; refine hK _ ?_; clear hK)
           | (clear hK; clear hK; clear hK; refine hK _ ?_; clear hK)
           | (clear hK; clear hK; clear hK; clear hK; refine hK _ ?_; clear hK)
           | fail
        all_goals (repeat (clear hK))
        all_goals simp [Tre.e_eq]
    · clear hd
      have hd : decide (((p.conj.length : Nat) : Int) < ((p.conj.length : Nat) : Int)) = false := by simp
      repeat' first
       | with_reducible first | refine thenQ_n ?_ | refine thenQ_r ?_ | refine thenQ_e ?_ | refine blockQ_n ?_ | refine blockQ_r ?_ | refine blockQ_e ?_ | refine tri_seq fun K hK => ?_ | refine tri_skip ?_ | refine tri_ret ?_ | refine tri_exit ?_ | refine tri_block ?_ | refine tri_region ?_ | refine sq_nil ?_
       | refine blockQ_o ?_ (by rfl)
       | ((with_reducible apply s_w); (case hw => exact xWT); first | ((with_reducible apply sg_q); (case hd => exact rfl); (case hn => exact rfl); (case he => (first | exact xE0 | ((with_reducible apply e_bi); (case hx => exact xDK); (case hy => exact xDK); (case hs => exact rfl); (case h => (simp only [binI, Int.reduceAdd, Int.reduceSub, Int.reduceMul, Int.reduceLT, Int.reduceLE, Int.reduceGT, Int.reduceEq, Int.reduceNeg, decide_true, decide_false, Bool.not_true, Bool.not_false, List.length_map, hd, htk]; with_reducible rfl))) | ((with_reducible apply e_ix); (case hx => exact xDK); (case hi => exact xDK); (case ht => exact xTY); (case hz => exact rfl); (case he => (simp only [List.length_map, hd, htk]; with_reducible rfl)); (case hc => exact xGS)) | ((with_reducible apply e_ln); (case hx => exact xDK); (case ht => exact xTY); (case hn => (first | (simp only [List.length_map, List.length_cons, List.length_nil, List.length_map, hd, htk]; with_reducible rfl) | rfl))) | ((with_reducible apply e_nt); (case hx => exact xDK); (case h => (first | (simp only [Bool.not_true, Bool.not_false, List.length_map, hd, htk]; with_reducible rfl) | rfl)))))) | (((with_reducible apply sg_bx); (case hn => exact rfl); (case hv => exact xLT); (case hc => exact xGS); (case hk => exact rfl))) | (((with_reducible apply sg_al); (case hn => exact rfl); (case hz => exact xTY); (case hc => exact xGS); (case hk => exact rfl))) | (((with_reducible apply sg_st); (case hx => exact xLK); (case hv => exact xLT); (case hc => exact xGS); (case hb => exact rfl); (case ht => exact xTY); (case hz => exact rfl); (case hs => exact xGS))) | (((with_reducible apply sg_e); (case hc => (intros; simp)); (case hs => (simp only [go_sem, Nat.reduceBEq, Nat.reduceBNe, Nat.reduceLT, Nat.reduceGT, Int.reduceGT, Int.reduceMul, Int.reduceAdd, Int.reduceSub, Nat.reduceAdd, Nat.reduceMul, Nat.reduceLeDiff, Nat.reduceEqDiff, Nat.reduceSub, Int.reduceNeg, Int.reduceToNat, Int.reduceLT, Int.reduceLE, Int.reduceEq, Int.cast_ofNat_Int, decide_true, decide_false, Bool.not_true, Bool.not_false, Bool.and_self, reduceIte, reduceCtorEq, List.length_map, hd, htk]; with_reducible rfl)))))
       | ((with_reducible apply s_n); (case hw => exact xWF); (case hd => exact rfl); (case hn => exact rfl))
       | ((with_reducible apply qs_ct); (case hc => exact xLK); (case he => exact xHB))
       | ((with_reducible apply qs_cf); (case hc => exact xLK); (case he => exact xHB))
       | ((with_reducible apply qs_cond); (case hc => exact xLK); (case hu => exact xUK); all_goals (intro hb))
       | ((with_reducible apply s_if); (case hg => exact rfl); (case hd => exact rfl); (case he => exact rfl); (case hu => exact xUK); all_goals (intro hb))
       | ((first | apply post_r | apply post_a); (case h1 => first | exact r1_t rfl rfl | (simp only [go_sem, Nat.reduceBEq, Nat.reduceBNe, Nat.reduceLT, Nat.reduceGT, Int.reduceGT, Int.reduceMul, Int.reduceAdd, Int.reduceSub, Nat.reduceAdd, Nat.reduceMul, Nat.reduceLeDiff, Nat.reduceEqDiff, Nat.reduceSub, Int.reduceNeg, Int.reduceToNat, Int.reduceLT, Int.reduceLE, Int.reduceEq, Int.cast_ofNat_Int, decide_true, decide_false, Bool.not_true, Bool.not_false, Bool.and_self, reduceIte, reduceCtorEq, List.length_map, hd, htk]; with_reducible rfl)); (case he => simp))
       | (refine hK _ ?_; clear hK)
       | (clear hK; refine hK _ ?_; clear hK)
       | (clear hK; clear hK; refine hK _ ?_; clear hK)
       | (clear hK; clear hK; clear hK; refine hK _ ?_; clear hK)
       | (clear hK; clear hK; clear hK; clear hK; refine hK _ ?_; clear hK)
       | fail
      refine tri_for (fun q : Nat × Nat => ⟨40, [(25, .v (.int .i64 (q.1 : Int))), (24, .v (.int .i64 (p.kids.length : Int))), (23, .v (tresE p.kids)), (6, .ap 5 ((p.kids.take q.1).map Tre.e) q.2), (3, .ap 14 (p.conj.map Prd.e) 20), (2, .loc 2 0), (1, .loc 1 0)], [(1, [.v (.int .i64 p.kind), .v (.int .i64 p.table), .v (.sl 5 (p.kids.map Tre.e)), .v (.sl 14 (p.conj.map Prd.e)), .v (.bool p.hash)]), (2, [.v (.int .i64 0), .v (.int .i64 0), .ap 5 [] 999999, .ap 14 [] 999999, .v (.bool false)])], bif q.2 == 999999 then [20] else [q.2, 20]⟩)
        (fun q => q.1 ≤ p.kids.length ∧ (q.2 = 999999 ∨ q.2 = 33)) (fun q => p.kids.length - q.1) (0, 999999) ?_ ⟨Nat.zero_le _, .inl rfl⟩ ?_
      · exact le_of rfl (by simp [LeT, get]) (by simp [LeT, get]) (by simp [LeK, memK])
      rintro ⟨k, s⟩ ⟨hk, hs⟩
      simp only at hk hs
      by_cases hlt : k < p.kids.length
      · have hd : decide ((k : Int) < ((p.kids.length : Nat) : Int)) = true := by simpa using hlt
        have hw := wrap_succ hlt hm
        have hkl : (p.kids.take k).length = k := by rw [List.length_take]; omega
        have b1 : (k + 1) * 72 ≤ 140737488355328 := by omega
        have b2 : k + 1 ≤ 9223372036854775807 := by omega
        have ihk := ih p.kids[k] (List.getElem_mem hlt) (by have := wtL_mem (List.getElem_mem hlt); omega)
        simp only [Tre.e_eq] at ihk
        rcases hs with rfl | rfl
        all_goals
          repeat' first
           | with_reducible first | refine thenQ_n ?_ | refine thenQ_r ?_ | refine thenQ_e ?_ | refine blockQ_n ?_ | refine blockQ_r ?_ | refine blockQ_e ?_ | refine tri_seq fun K hK => ?_ | refine tri_skip ?_ | refine tri_ret ?_ | refine tri_exit ?_ | refine tri_block ?_ | refine tri_region ?_ | refine sq_nil ?_
           | refine blockQ_o ?_ (by rfl)
           | ((with_reducible apply s_w); (case hw => exact xWT); first | ((with_reducible apply sg_q); (case hd => exact rfl); (case hn => exact rfl); (case he => (first | exact xE0 | ((with_reducible apply e_bi); (case hx => exact xDK); (case hy => exact xDK); (case hs => exact rfl); (case h => (simp only [binI, Int.reduceAdd, Int.reduceSub, Int.reduceMul, Int.reduceLT, Int.reduceLE, Int.reduceGT, Int.reduceEq, Int.reduceNeg, decide_true, decide_false, Bool.not_true, Bool.not_false, List.length_map, hkl, hd, hw, b1, b2, ixA_map hlt]; with_reducible rfl))) | ((with_reducible apply e_ix); (case hx => exact xDK); (case hi => exact xDK); (case ht => exact xTY); (case hz => exact rfl); (case he => (simp only [List.length_map, hkl, hd, hw, b1, b2, ixA_map hlt]; with_reducible rfl)); (case hc => exact xGS)) | ((with_reducible apply e_ln); (case hx => exact xDK); (case ht => exact xTY); (case hn => (first | (simp only [List.length_map, List.length_cons, List.length_nil, List.length_map, hkl, hd, hw, b1, b2, ixA_map hlt]; with_reducible rfl) | rfl))) | ((with_reducible apply e_nt); (case hx => exact xDK); (case h => (first | (simp only [Bool.not_true, Bool.not_false, List.length_map, hkl, hd, hw, b1, b2, ixA_map hlt]; with_reducible rfl) | rfl)))))) | (((with_reducible apply sg_k); (case ha => exact xDA); (case hfc => ((try simp only [List.length_map, hkl, hd, hw, b1, b2, ixA_map hlt]); first | exact ihk | (have hq_ := ihk; simp only [Prd.e_eq, Trm.e, Val.e, Col.e, Tre.e_eq] at hq_; exact hq_))); (case hr => exact xRT))) | ((with_reducible apply sg_kv); (case hv => exact rfl); (case ha => exact xDA); (case hl => exact xLs); (case hfc => ((try simp only [List.length_map, hkl, hd, hw, b1, b2, ixA_map hlt]); first | exact ihk | (have hq_ := ihk; simp only [Prd.e_eq, Trm.e, Val.e, Col.e, Tre.e_eq] at hq_; exact hq_))); (case hr => exact xRT)) | (((with_reducible apply sg_bx); (case hn => exact rfl); (case hv => exact xLT); (case hc => exact xGS); (case hk => exact rfl))) | (((with_reducible apply sg_al); (case hn => exact rfl); (case hz => exact xTY); (case hc => exact xGS); (case hk => exact rfl))) | (((with_reducible apply sg_st); (case hx => exact xLK); (case hv => exact xLT); (case hc => exact xGS); (case hb => exact rfl); (case ht => exact xTY); (case hz => exact rfl); (case hs => exact xGS))) | (((with_reducible apply sg_e); (case hc => (intros; simp)); (case hs => (simp only [go_sem, Nat.reduceBEq, Nat.reduceBNe, Nat.reduceLT, Nat.reduceGT, Int.reduceGT, Int.reduceMul, Int.reduceAdd, Int.reduceSub, Nat.reduceAdd, Nat.reduceMul, Nat.reduceLeDiff, Nat.reduceEqDiff, Nat.reduceSub, Int.reduceNeg, Int.reduceToNat, Int.reduceLT, Int.reduceLE, Int.reduceEq, Int.cast_ofNat_Int, decide_true, decide_false, Bool.not_true, Bool.not_false, Bool.and_self, reduceIte, reduceCtorEq, List.length_map, hkl, hd, hw, b1, b2, ixA_map hlt]; with_reducible rfl)))))
           | ((with_reducible apply s_n); (case hw => exact xWF); (case hd => exact rfl); (case hn => exact rfl))
           | ((with_reducible apply qs_ct); (case hc => exact xLK); (case he => exact xHB))
           | ((with_reducible apply qs_cf); (case hc => exact xLK); (case he => exact xHB))
           | ((with_reducible apply qs_cond); (case hc => exact xLK); (case hu => exact xUK); all_goals (intro hb))
           | ((with_reducible apply s_if); (case hg => exact rfl); (case hd => exact rfl); (case he => exact rfl); (case hu => exact xUK); all_goals (intro hb))
           | ((first | apply post_r | apply post_a); (case h1 => first | exact r1_t rfl rfl | (simp only [go_sem, Nat.reduceBEq, Nat.reduceBNe, Nat.reduceLT, Nat.reduceGT, Int.reduceGT, Int.reduceMul, Int.reduceAdd, Int.reduceSub, Nat.reduceAdd, Nat.reduceMul, Nat.reduceLeDiff, Nat.reduceEqDiff, Nat.reduceSub, Int.reduceNeg, Int.reduceToNat, Int.reduceLT, Int.reduceLE, Int.reduceEq, Int.cast_ofNat_Int, decide_true, decide_false, Bool.not_true, Bool.not_false, Bool.and_self, reduceIte, reduceCtorEq, List.length_map, hkl, hd, hw, b1, b2, ixA_map hlt]; with_reducible rfl)); (case he => simp))
           | (refine hK _ ?_; clear hK)
           | (clear hK; refine hK _ ?_; clear hK)
           | (clear hK; clear hK; refine hK _ ?_; clear hK)
           | (clear hK; clear hK; clear hK; refine hK _ ?_; clear hK)
           | (clear hK; clear hK; clear hK; clear hK; refine hK _ ?_; clear hK)
           | fail
        all_goals (repeat (clear hK))
        all_goals
          refine ⟨(k + 1, 33), ⟨hlt, .inr rfl⟩, by simp only; omega, le_of rfl ?_ (by simp [LeT, get]) (by simp [LeK, memK])⟩
          rw [List.take_succ_eq_append_getElem hlt]
          simp only [go_sem, Nat.reduceBEq, List.map_append]
      · have hd : decide ((k : Int) < ((p.kids.length : Nat) : Int)) = false := by simpa using hlt
        obtain rfl : k = p.kids.length := by omega
        rcases hs with rfl | rfl
        all_goals
          repeat' first
           | with_reducible first | refine thenQ_n ?_ | refine thenQ_r ?_ | refine thenQ_e ?_ | refine blockQ_n ?_ | refine blockQ_r ?_ | refine blockQ_e ?_ | refine tri_seq fun K hK => ?_ | refine tri_skip ?_ | refine tri_ret ?_ | refine tri_exit ?_ | refine tri_block ?_ | refine tri_region ?_ | refine sq_nil ?_
           | refine blockQ_o ?_ (by rfl)
           | ((with_reducible apply s_w); (case hw => exact xWT); first | ((with_reducible apply sg_q); (case hd => exact rfl); (case hn => exact rfl); (case he => (first | exact xE0 | ((with_reducible apply e_bi); (case hx => exact xDK); (case hy => exact xDK); (case hs => exact rfl); (case h => (simp only [binI, Int.reduceAdd, Int.reduceSub, Int.reduceMul, Int.reduceLT, Int.reduceLE, Int.reduceGT, Int.reduceEq, Int.reduceNeg, decide_true, decide_false, Bool.not_true, Bool.not_false, List.length_map, hd, List.take_length]; with_reducible rfl))) | ((with_reducible apply e_ix); (case hx => exact xDK); (case hi => exact xDK); (case ht => exact xTY); (case hz => exact rfl); (case he => (simp only [List.length_map, hd, List.take_length]; with_reducible rfl)); (case hc => exact xGS)) | ((with_reducible apply e_ln); (case hx => exact xDK); (case ht => exact xTY); (case hn => (first | (simp only [List.length_map, List.length_cons, List.length_nil, List.length_map, hd, List.take_length]; with_reducible rfl) | rfl))) | ((with_reducible apply e_nt); (case hx => exact xDK); (case h => (first | (simp only [Bool.not_true, Bool.not_false, List.length_map, hd, List.take_length]; with_reducible rfl) | rfl)))))) | (((with_reducible apply sg_bx); (case hn => exact rfl); (case hv => exact xLT); (case hc => exact xGS); (case hk => exact rfl))) | (((with_reducible apply sg_al); (case hn => exact rfl); (case hz => exact xTY); (case hc => exact xGS); (case hk => exact rfl))) | (((with_reducible apply sg_st); (case hx => exact xLK); (case hv => exact xLT); (case hc => exact xGS); (case hb => exact rfl); (case ht => exact xTY); (case hz => exact rfl); (case hs => exact xGS))) | (((with_reducible apply sg_e); (case hc => (intros; simp)); (case hs => (simp only [go_sem, Nat.reduceBEq, Nat.reduceBNe, Nat.reduceLT, Nat.reduceGT, Int.reduceGT, Int.reduceMul, Int.reduceAdd, Int.reduceSub, Nat.reduceAdd, Nat.reduceMul, Nat.reduceLeDiff, Nat.reduceEqDiff, Nat.reduceSub, Int.reduceNeg, Int.reduceToNat, Int.reduceLT, Int.reduceLE, Int.reduceEq, Int.cast_ofNat_Int, decide_true, decide_false, Bool.not_true, Bool.not_false, Bool.and_self, reduceIte, reduceCtorEq, List.length_map, hd, List.take_length]; with_reducible rfl)))))
           | ((with_reducible apply s_n); (case hw => exact xWF); (case hd => exact rfl); (case hn => exact rfl))
           | ((with_reducible apply qs_ct); (case hc => exact xLK); (case he => exact xHB))
           | ((with_reducible apply qs_cf); (case hc => exact xLK); (case he => exact xHB))
           | ((with_reducible apply qs_cond); (case hc => exact xLK); (case hu => exact xUK); all_goals (intro hb))
           | ((with_reducible apply s_if); (case hg => exact rfl); (case hd => exact rfl); (case he => exact rfl); (case hu => exact xUK); all_goals (intro hb))
           | ((first | apply post_r | apply post_a); (case h1 => first | exact r1_t rfl rfl | (simp only [go_sem, Nat.reduceBEq, Nat.reduceBNe, Nat.reduceLT, Nat.reduceGT, Int.reduceGT, Int.reduceMul, Int.reduceAdd, Int.reduceSub, Nat.reduceAdd, Nat.reduceMul, Nat.reduceLeDiff, Nat.reduceEqDiff, Nat.reduceSub, Int.reduceNeg, Int.reduceToNat, Int.reduceLT, Int.reduceLE, Int.reduceEq, Int.cast_ofNat_Int, decide_true, decide_false, Bool.not_true, Bool.not_false, Bool.and_self, reduceIte, reduceCtorEq, List.length_map, hd, List.take_length]; with_reducible rfl)); (case he => simp))
           | (refine hK _ ?_; clear hK)
           | (clear hK; refine hK _ ?_; clear hK)
           | (clear hK; clear hK; refine hK _ ?_; clear hK)
           | (clear hK; clear hK; clear hK; refine hK _ ?_; clear hK)
           | (clear hK; clear hK; clear hK; clear hK; refine hK _ ?_; clear hK)
           | fail
        all_goals (repeat (clear hK))
        all_goals simp [Tre.e_eq]

end Go.Proofs.Ytigkkfhpnfjmhaa.AL
