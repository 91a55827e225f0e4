/- Contracts: the law of the parts of a set. -/
import Derived.Test.YtceleegbbclajaaDoorYT8
namespace Go.Proofs.YtceleegbbclajaaDoor.AL
open Go
set_option linter.unusedVariables false
set_option linter.unusedSimpArgs false
set_option maxRecDepth 4000
theorem prtN_lt64 {s : Nat} (hs : s < 18446744073709551616) (k : Nat) : prtN s k < 18446744073709551616 := Nat.lt_of_le_of_lt (prtN_le hs k) hs
theorem prtN_in {s : Nat} (hs : s < 18446744073709551616) (k : Nat) : inS (prtN s k) s = true := by
  have h := prt_and (digs s 64) k
  rw [valB_s hs] at h
  refine inS_iff.2 fun i _ hb => ?_
  have h2 : (prt (digs s 64) k &&& s).testBit i = true := by rw [h]; exact hb
  rw [Nat.testBit_and, Bool.and_eq_true] at h2
  exact h2.2
theorem nP_many {s : Nat} (h : 10 < (membs s).length) : 2048 ≤ nP s := by
  have : 2 ^ 11 ≤ 2 ^ (membs s).length := Nat.pow_le_pow_right (by omega) (by omega)
  unfold nP; omega
theorem nP_few {s : Nat} (h : (membs s).length ≤ 10) : nP s ≤ 1024 := by
  have : 2 ^ (membs s).length ≤ 2 ^ 10 := Nat.pow_le_pow_right (by omega) h
  unfold nP; omega

set_option maxHeartbeats 4000000 in
theorem c_setsSubsets (s m : Nat) (hs : s < 18446744073709551616) (hm : m < 256) : FC Tryd.prog 3 [.int .u64 s, .int .u8 m] (.v (.bool true)) := by
  refine fc_of_body (nt := 82) (rs := [.tmp 4]) (ts := [(0, _), (1, _)]) Tryd.func3 rfl rfl rfl rfl (by decide) (Nat.le_of_ble_eq_true rfl) ?_
  have aw := c_awakeS
  have k1 := c_refCount s hs
  have k2 := c_parts s m hs (by omega)
  have hcv : IntKind.i64.wrap (m : Int) = (m : Int) := by rw [IntWalk.i64_in _ (by omega)]
  by_cases hL : (membs s).length ≤ 10
  case neg =>
    have hd : decide ((10 : Int) < ((membs s).length : Int)) = true := by simp; omega
    have hN := nP_many (s := s) (by omega)
    have hlen : ((prtsL s).take m).length = m := by rw [List.length_take, prtsL_len]; omega
    have hat : ∀ k (h : k < ((prtsL s).take m).length), ((prtsL s).take m)[k] = prtN s (k + 1) := fun k h => by rw [List.getElem_take]; exact prtsL_at _
    repeat' first
     | with_reducible first | refine thenQ_n ?_ | refine thenQ_r ?_ | refine thenQ_e ?_ | refine blockQ_n ?_ | refine blockQ_r ?_ | refine blockQ_e ?_ | refine tri_seq fun K hK => ?_ | refine tri_skip ?_ | refine tri_ret ?_ | refine tri_exit ?_ | refine tri_block ?_ | refine tri_region ?_ | refine sq_nil ?_
     | refine blockQ_o ?_ (by rfl)
     | (with_reducible refine dr (id := 6) [0, 1, 2, 3, 4, 5, 6, 7, 8, 9, 10, 11, 12, 13, 14, 15, 16, 17, 18, 19, 20, 21, 22, 23, 24, 25, 26, 27, 28, 29] [] ?_)
     | (with_reducible refine dr (id := 10) [0, 1, 2, 3, 4, 5, 6, 7, 8, 9, 10, 11, 12, 13, 14, 15, 16, 17, 18, 19, 20] [21] ?_)
     | ((first | with_reducible apply s_w | ((with_reducible apply d_w); (case ho => exact rfl))); (case hw => exact xWT); first | ((with_reducible first | apply sg_q | apply dg_q); (case hd => exact rfl); (case hn => exact rfl); (case he => (first | exact xE0 | ((with_reducible apply e_bi); (case hx => exact xDK); (case hy => exact xDK); (case hs => exact rfl); (case h => (simp only [binI, Int.reduceAdd, Int.reduceSub, Int.reduceMul, Int.reduceLT, Int.reduceLE, Int.reduceGT, Int.reduceEq, Int.reduceNeg, decide_true, decide_false, Bool.not_true, Bool.not_false, List.length_map, hd, hcv]; with_reducible rfl))) | ((with_reducible apply e_ix); (case hx => exact xDK); (case hi => exact xDK); (case ht => exact xTY); (case hz => exact rfl); (case he => (simp only [List.length_map, hd, hcv]; with_reducible rfl)); (case hc => exact xGS)) | ((with_reducible apply e_ln); (case hx => exact xDK); (case ht => exact xTY); (case hn => (first | (simp only [List.length_map, List.length_cons, List.length_nil, List.length_map, hd, hcv]; with_reducible rfl) | rfl))) | ((with_reducible apply e_nt); (case hx => exact xDK); (case h => (first | (simp only [Bool.not_true, Bool.not_false, List.length_map, hd, hcv]; with_reducible rfl) | rfl)))))) | ((first | with_reducible apply sg_k | ((with_reducible apply dg_k); (case hn => exact rfl))); (case ha => exact xDA); (case hfc => ((try simp only [List.length_map, hd, hcv]); first | exact aw | exact k1 | exact k2 )); (case hr => exact xRD)) | ((first | with_reducible apply sg_kv | ((with_reducible apply dg_kv); (case hn => exact rfl))); (case hv => exact rfl); (case ha => exact xDA); (case hl => exact xLs); (case hfc => ((try simp only [List.length_map, hd, hcv]); first | exact aw | exact k1 | exact k2 )); (case hr => exact xRD)) | (((with_reducible apply sg_bx); (case hn => exact rfl); (case hv => exact xLT); (case hc => exact xGS); (case hk => exact rfl))) | (((with_reducible apply sg_al); (case hn => exact rfl); (case hz => exact xTY); (case hc => exact xGS); (case hk => exact rfl))) | (((with_reducible apply sg_st); (case hx => exact xLK); (case hv => exact xLT); (case hc => exact xGS); (case hb => exact rfl); (case ht => exact xTY); (case hz => exact rfl); (case hs => exact xGS))) | (((with_reducible apply dg_al); (case hn => exact rfl); (case hz => exact xTY); (case hc => exact xGS))) | (((first | ((with_reducible apply sg_e); (case hc => (intros; simp))) | ((with_reducible apply dg_e); (case hd => exact rfl); (case hn => exact rfl))); (case hs => (simp only [go_sem, Nat.reduceBEq, Nat.reduceBNe, Nat.reduceLT, Nat.reduceGT, Int.reduceGT, Int.reduceMul, Int.reduceAdd, Int.reduceSub, Nat.reduceAdd, Nat.reduceMul, Nat.reduceLeDiff, Nat.reduceEqDiff, Nat.reduceSub, Int.reduceNeg, Int.reduceToNat, Int.reduceLT, Int.reduceLE, Int.reduceEq, Int.cast_ofNat_Int, decide_true, decide_false, Bool.not_true, Bool.not_false, Bool.and_self, reduceIte, reduceCtorEq, List.length_map, hd, hcv]; with_reducible rfl)))))
     | ((first | with_reducible apply s_n | ((with_reducible apply d_n); (case ho => exact rfl))); (case hw => exact xWF); (case hd => exact rfl); (case hn => exact rfl))
     | ((with_reducible refine dq_nil ?_); apply d_end; (case hd => kernel_rfl); (case ht => exact xGS); (case hb => exact xGS); (case hk => exact xGS))
     | ((with_reducible apply qs_ct); (case hc => exact xLK); (case he => exact xHB))
     | ((with_reducible apply qs_cf); (case hc => exact xLK); (case he => exact xHB))
     | ((with_reducible apply qs_cond); (case hc => exact xLK); (case hu => exact xUK); all_goals (intro hb))
     | ((first | with_reducible apply s_if | ((with_reducible apply d_if); (case ho => exact rfl))); (case hg => exact rfl); (case hd => exact rfl); (case he => exact rfl); (case hu => exact xUK); all_goals (intro hb))
     | ((first | apply post_r | apply post_a); (case h1 => first | exact r1_t rfl rfl | exact xR); (case he => simp))
     | (refine hK _ ?_; clear hK)
     | (clear hK; refine hK _ ?_; clear hK)
     | (clear hK; clear hK; refine hK _ ?_; clear hK)
     | (clear hK; clear hK; clear hK; refine hK _ ?_; clear hK)
     | (clear hK; clear hK; clear hK; clear hK; refine hK _ ?_; clear hK)
     | fail
    generalize (prtsL s).take m = L at *
    refine tri_for (fun k : Nat => ⟨82, [(6, .v (.int .i64 (k : Int))), (5, .v (wordsE L)), (1, .v (.int .u8 m)), (0, .v (.int .u64 s))], [], []⟩) (fun k => k ≤ L.length) (fun k => L.length - k) 0 ?_ (Nat.zero_le _) ?_
    · exact le_of rfl (by simp [LeT, get]) (by simp [LeT, get]) (by simp [LeK, memK])
    intro k hk
    by_cases hlt : k < L.length
    · have he : decide ((k : Int) < (L.length : Int)) = true := by simpa using hlt
      have hw : IntKind.i64.wrap ((k : Int) + 1) = ((k + 1 : Nat) : Int) := by rw [IntWalk.i64_in _ (by omega)]; rfl
      have j1 := c_refIn L[k] s (by rw [hat k hlt]; exact prtN_lt64 hs _) hs
      rw [show inS L[k] s = true by rw [hat k hlt]; exact prtN_in hs _] at j1
      have hp := prtN_lt (s := s) (n := 0) (m := k + 1) (by omega) (by omega)
      have dz : decide ((L[k] : Int) = 0) = false := by rw [hat k hlt]; simp; omega
      by_cases h0 : k = 0
      · have d0 : decide ((0 : Int) < (k : Int)) = false := by simp; omega
        repeat' first
         | with_reducible first | refine thenQ_n ?_ | refine thenQ_r ?_ | refine thenQ_e ?_ | refine blockQ_n ?_ | refine blockQ_r ?_ | refine blockQ_e ?_ | refine tri_seq fun K hK => ?_ | refine tri_skip ?_ | refine tri_ret ?_ | refine tri_exit ?_ | refine tri_block ?_ | refine tri_region ?_ | refine sq_nil ?_
         | refine blockQ_o ?_ (by rfl)
         | (with_reducible refine dr (id := 6) [0, 1, 2, 3, 4, 5, 6, 7, 8, 9, 10, 11, 12, 13, 14, 15, 16, 17, 18, 19, 20, 21, 22, 23, 24, 25, 26, 27, 28, 29] [] ?_)
         | (with_reducible refine dr (id := 10) [0, 1, 2, 3, 4, 5, 6, 7, 8, 9, 10, 11, 12, 13, 14, 15, 16, 17, 18, 19, 20] [21] ?_)
         | ((first | with_reducible apply s_w | ((with_reducible apply d_w); (case ho => exact rfl))); (case hw => exact xWT); first | ((with_reducible first | apply sg_q | apply dg_q); (case hd => exact rfl); (case hn => exact rfl); (case he => (first | exact xE0 | ((with_reducible apply e_bi); (case hx => exact xDK); (case hy => exact xDK); (case hs => exact rfl); (case h => (simp only [binI, Int.reduceAdd, Int.reduceSub, Int.reduceMul, Int.reduceLT, Int.reduceLE, Int.reduceGT, Int.reduceEq, Int.reduceNeg, decide_true, decide_false, Bool.not_true, Bool.not_false, List.length_map, he, hw, dz, d0, ixA_map hlt, bt_t, bf_f]; with_reducible rfl))) | ((with_reducible apply e_ix); (case hx => exact xDK); (case hi => exact xDK); (case ht => exact xTY); (case hz => exact rfl); (case he => (simp only [List.length_map, he, hw, dz, d0, ixA_map hlt, bt_t, bf_f]; with_reducible rfl)); (case hc => exact xGS)) | ((with_reducible apply e_ln); (case hx => exact xDK); (case ht => exact xTY); (case hn => (first | (simp only [List.length_map, List.length_cons, List.length_nil, List.length_map, he, hw, dz, d0, ixA_map hlt, bt_t, bf_f]; with_reducible rfl) | rfl))) | ((with_reducible apply e_nt); (case hx => exact xDK); (case h => (first | (simp only [Bool.not_true, Bool.not_false, List.length_map, he, hw, dz, d0, ixA_map hlt, bt_t, bf_f]; with_reducible rfl) | rfl)))))) | ((first | with_reducible apply sg_k | ((with_reducible apply dg_k); (case hn => exact rfl))); (case ha => exact xDA); (case hfc => ((try simp only [List.length_map, he, hw, dz, d0, ixA_map hlt, bt_t, bf_f]); first | exact j1 )); (case hr => exact xRD)) | ((first | with_reducible apply sg_kv | ((with_reducible apply dg_kv); (case hn => exact rfl))); (case hv => exact rfl); (case ha => exact xDA); (case hl => exact xLs); (case hfc => ((try simp only [List.length_map, he, hw, dz, d0, ixA_map hlt, bt_t, bf_f]); first | exact j1 )); (case hr => exact xRD)) | (((with_reducible apply sg_bx); (case hn => exact rfl); (case hv => exact xLT); (case hc => exact xGS); (case hk => exact rfl))) | (((with_reducible apply sg_al); (case hn => exact rfl); (case hz => exact xTY); (case hc => exact xGS); (case hk => exact rfl))) | (((with_reducible apply sg_st); (case hx => exact xLK); (case hv => exact xLT); (case hc => exact xGS); (case hb => exact rfl); (case ht => exact xTY); (case hz => exact rfl); (case hs => exact xGS))) | (((with_reducible apply dg_al); (case hn => exact rfl); (case hz => exact xTY); (case hc => exact xGS))) | (((first | ((with_reducible apply sg_e); (case hc => (intros; simp))) | ((with_reducible apply dg_e); (case hd => exact rfl); (case hn => exact rfl))); (case hs => (simp only [go_sem, Nat.reduceBEq, Nat.reduceBNe, Nat.reduceLT, Nat.reduceGT, Int.reduceGT, Int.reduceMul, Int.reduceAdd, Int.reduceSub, Nat.reduceAdd, Nat.reduceMul, Nat.reduceLeDiff, Nat.reduceEqDiff, Nat.reduceSub, Int.reduceNeg, Int.reduceToNat, Int.reduceLT, Int.reduceLE, Int.reduceEq, Int.cast_ofNat_Int, decide_true, decide_false, Bool.not_true, Bool.not_false, Bool.and_self, reduceIte, reduceCtorEq, List.length_map, he, hw, dz, d0, ixA_map hlt, bt_t, bf_f]; with_reducible rfl)))))
         | ((first | with_reducible apply s_n | ((with_reducible apply d_n); (case ho => exact rfl))); (case hw => exact xWF); (case hd => exact rfl); (case hn => exact rfl))
         | ((with_reducible refine dq_nil ?_); apply d_end; (case hd => kernel_rfl); (case ht => exact xGS); (case hb => exact xGS); (case hk => exact xGS))
         | ((with_reducible apply qs_ct); (case hc => exact xLK); (case he => exact xHB))
         | ((with_reducible apply qs_cf); (case hc => exact xLK); (case he => exact xHB))
         | ((with_reducible apply qs_cond); (case hc => exact xLK); (case hu => exact xUK); all_goals (intro hb))
         | ((first | with_reducible apply s_if | ((with_reducible apply d_if); (case ho => exact rfl))); (case hg => exact rfl); (case hd => exact rfl); (case he => exact rfl); (case hu => exact xUK); all_goals (intro hb))
         | ((first | apply post_r | apply post_a); (case h1 => first | exact r1_t rfl rfl | exact xR); (case he => simp))
         | (refine hK _ ?_; clear hK)
         | (clear hK; refine hK _ ?_; clear hK)
         | (clear hK; clear hK; refine hK _ ?_; clear hK)
         | (clear hK; clear hK; clear hK; refine hK _ ?_; clear hK)
         | (clear hK; clear hK; clear hK; clear hK; refine hK _ ?_; clear hK)
         | fail
        all_goals (repeat (clear hK))
        all_goals exact ⟨k + 1, hlt, by omega, le_of rfl (by simp [LeT, get, rT]) (by simp [LeT, get, rT, rB]) (by simp [LeK, memK])⟩
      · have d0 : decide ((0 : Int) < (k : Int)) = true := by simp; omega
        have hwm : IntKind.i64.wrap ((k : Int) - 1) = ((k - 1 : Nat) : Int) := by rw [IntWalk.i64_in _ (by omega)]; omega
        have hlm : k - 1 < L.length := by omega
        have hq := prtN_lt (s := s) (n := k - 1 + 1) (m := k + 1) (by omega) (by omega)
        have dl : decide ((L[k] : Int) ≤ (L[k - 1] : Int)) = false := by rw [hat k hlt, hat (k - 1) hlm]; simp; omega
        repeat' first
         | with_reducible first | refine thenQ_n ?_ | refine thenQ_r ?_ | refine thenQ_e ?_ | refine blockQ_n ?_ | refine blockQ_r ?_ | refine blockQ_e ?_ | refine tri_seq fun K hK => ?_ | refine tri_skip ?_ | refine tri_ret ?_ | refine tri_exit ?_ | refine tri_block ?_ | refine tri_region ?_ | refine sq_nil ?_
         | refine blockQ_o ?_ (by rfl)
         | (with_reducible refine dr (id := 6) [0, 1, 2, 3, 4, 5, 6, 7, 8, 9, 10, 11, 12, 13, 14, 15, 16, 17, 18, 19, 20, 21, 22, 23, 24, 25, 26, 27, 28, 29] [] ?_)
         | (with_reducible refine dr (id := 10) [0, 1, 2, 3, 4, 5, 6, 7, 8, 9, 10, 11, 12, 13, 14, 15, 16, 17, 18, 19, 20] [21] ?_)
         | ((first | with_reducible apply s_w | ((with_reducible apply d_w); (case ho => exact rfl))); (case hw => exact xWT); first | ((with_reducible first | apply sg_q | apply dg_q); (case hd => exact rfl); (case hn => exact rfl); (case he => (first | exact xE0 | ((with_reducible apply e_bi); (case hx => exact xDK); (case hy => exact xDK); (case hs => exact rfl); (case h => (simp only [binI, Int.reduceAdd, Int.reduceSub, Int.reduceMul, Int.reduceLT, Int.reduceLE, Int.reduceGT, Int.reduceEq, Int.reduceNeg, decide_true, decide_false, Bool.not_true, Bool.not_false, List.length_map, he, hw, hwm, dz, d0, dl, ixA_map hlt, ixA_map hlm, bt_t, bf_f]; with_reducible rfl))) | ((with_reducible apply e_ix); (case hx => exact xDK); (case hi => exact xDK); (case ht => exact xTY); (case hz => exact rfl); (case he => (simp only [List.length_map, he, hw, hwm, dz, d0, dl, ixA_map hlt, ixA_map hlm, bt_t, bf_f]; with_reducible rfl)); (case hc => exact xGS)) | ((with_reducible apply e_ln); (case hx => exact xDK); (case ht => exact xTY); (case hn => (first | (simp only [List.length_map, List.length_cons, List.length_nil, List.length_map, he, hw, hwm, dz, d0, dl, ixA_map hlt, ixA_map hlm, bt_t, bf_f]; with_reducible rfl) | rfl))) | ((with_reducible apply e_nt); (case hx => exact xDK); (case h => (first | (simp only [Bool.not_true, Bool.not_false, List.length_map, he, hw, hwm, dz, d0, dl, ixA_map hlt, ixA_map hlm, bt_t, bf_f]; with_reducible rfl) | rfl)))))) | ((first | with_reducible apply sg_k | ((with_reducible apply dg_k); (case hn => exact rfl))); (case ha => exact xDA); (case hfc => ((try simp only [List.length_map, he, hw, hwm, dz, d0, dl, ixA_map hlt, ixA_map hlm, bt_t, bf_f]); first | exact j1 )); (case hr => exact xRD)) | ((first | with_reducible apply sg_kv | ((with_reducible apply dg_kv); (case hn => exact rfl))); (case hv => exact rfl); (case ha => exact xDA); (case hl => exact xLs); (case hfc => ((try simp only [List.length_map, he, hw, hwm, dz, d0, dl, ixA_map hlt, ixA_map hlm, bt_t, bf_f]); first | exact j1 )); (case hr => exact xRD)) | (((with_reducible apply sg_bx); (case hn => exact rfl); (case hv => exact xLT); (case hc => exact xGS); (case hk => exact rfl))) | (((with_reducible apply sg_al); (case hn => exact rfl); (case hz => exact xTY); (case hc => exact xGS); (case hk => exact rfl))) | (((with_reducible apply sg_st); (case hx => exact xLK); (case hv => exact xLT); (case hc => exact xGS); (case hb => exact rfl); (case ht => exact xTY); (case hz => exact rfl); (case hs => exact xGS))) | (((with_reducible apply dg_al); (case hn => exact rfl); (case hz => exact xTY); (case hc => exact xGS))) | (((first | ((with_reducible apply sg_e); (case hc => (intros; simp))) | ((with_reducible apply dg_e); (case hd => exact rfl); (case hn => exact rfl))); (case hs => (simp only [go_sem, Nat.reduceBEq, Nat.reduceBNe, Nat.reduceLT, Nat.reduceGT, Int.reduceGT, Int.reduceMul, Int.reduceAdd, Int.reduceSub, Nat.reduceAdd, Nat.reduceMul, Nat.reduceLeDiff, Nat.reduceEqDiff, Nat.reduceSub, Int.reduceNeg, Int.reduceToNat, Int.reduceLT, Int.reduceLE, Int.reduceEq, Int.cast_ofNat_Int, decide_true, decide_false, Bool.not_true, Bool.not_false, Bool.and_self, reduceIte, reduceCtorEq, List.length_map, he, hw, hwm, dz, d0, dl, ixA_map hlt, ixA_map hlm, bt_t, bf_f]; with_reducible rfl)))))
         | ((first | with_reducible apply s_n | ((with_reducible apply d_n); (case ho => exact rfl))); (case hw => exact xWF); (case hd => exact rfl); (case hn => exact rfl))
         | ((with_reducible refine dq_nil ?_); apply d_end; (case hd => kernel_rfl); (case ht => exact xGS); (case hb => exact xGS); (case hk => exact xGS))
         | ((with_reducible apply qs_ct); (case hc => exact xLK); (case he => exact xHB))
         | ((with_reducible apply qs_cf); (case hc => exact xLK); (case he => exact xHB))
         | ((with_reducible apply qs_cond); (case hc => exact xLK); (case hu => exact xUK); all_goals (intro hb))
         | ((first | with_reducible apply s_if | ((with_reducible apply d_if); (case ho => exact rfl))); (case hg => exact rfl); (case hd => exact rfl); (case he => exact rfl); (case hu => exact xUK); all_goals (intro hb))
         | ((first | apply post_r | apply post_a); (case h1 => first | exact r1_t rfl rfl | exact xR); (case he => simp))
         | (refine hK _ ?_; clear hK)
         | (clear hK; refine hK _ ?_; clear hK)
         | (clear hK; clear hK; refine hK _ ?_; clear hK)
         | (clear hK; clear hK; clear hK; refine hK _ ?_; clear hK)
         | (clear hK; clear hK; clear hK; clear hK; refine hK _ ?_; clear hK)
         | fail
        all_goals (repeat (clear hK))
        all_goals exact ⟨k + 1, hlt, by omega, le_of rfl (by simp [LeT, get, rT]) (by simp [LeT, get, rT, rB]) (by simp [LeK, memK])⟩
    · have he : decide ((k : Int) < (L.length : Int)) = false := by simpa using hlt
      have dm : decide ((L.length : Int) = (m : Int)) = true := by simp [hlen]
      repeat' first
       | with_reducible first | refine thenQ_n ?_ | refine thenQ_r ?_ | refine thenQ_e ?_ | refine blockQ_n ?_ | refine blockQ_r ?_ | refine blockQ_e ?_ | refine tri_seq fun K hK => ?_ | refine tri_skip ?_ | refine tri_ret ?_ | refine tri_exit ?_ | refine tri_block ?_ | refine tri_region ?_ | refine sq_nil ?_
       | refine blockQ_o ?_ (by rfl)
       | (with_reducible refine dr (id := 6) [0, 1, 2, 3, 4, 5, 6, 7, 8, 9, 10, 11, 12, 13, 14, 15, 16, 17, 18, 19, 20, 21, 22, 23, 24, 25, 26, 27, 28, 29] [] ?_)
       | (with_reducible refine dr (id := 10) [0, 1, 2, 3, 4, 5, 6, 7, 8, 9, 10, 11, 12, 13, 14, 15, 16, 17, 18, 19, 20] [21] ?_)
       | ((first | with_reducible apply s_w | ((with_reducible apply d_w); (case ho => exact rfl))); (case hw => exact xWT); first | ((with_reducible first | apply sg_q | apply dg_q); (case hd => exact rfl); (case hn => exact rfl); (case he => (first | exact xE0 | ((with_reducible apply e_bi); (case hx => exact xDK); (case hy => exact xDK); (case hs => exact rfl); (case h => (simp only [binI, Int.reduceAdd, Int.reduceSub, Int.reduceMul, Int.reduceLT, Int.reduceLE, Int.reduceGT, Int.reduceEq, Int.reduceNeg, decide_true, decide_false, Bool.not_true, Bool.not_false, List.length_map, he, dm, hcv]; with_reducible rfl))) | ((with_reducible apply e_ix); (case hx => exact xDK); (case hi => exact xDK); (case ht => exact xTY); (case hz => exact rfl); (case he => (simp only [List.length_map, he, dm, hcv]; with_reducible rfl)); (case hc => exact xGS)) | ((with_reducible apply e_ln); (case hx => exact xDK); (case ht => exact xTY); (case hn => (first | (simp only [List.length_map, List.length_cons, List.length_nil, List.length_map, he, dm, hcv]; with_reducible rfl) | rfl))) | ((with_reducible apply e_nt); (case hx => exact xDK); (case h => (first | (simp only [Bool.not_true, Bool.not_false, List.length_map, he, dm, hcv]; with_reducible rfl) | rfl)))))) | ((first | with_reducible apply sg_k | ((with_reducible apply dg_k); (case hn => exact rfl))); (case ha => exact xDA); (case hfc => ((try simp only [List.length_map, he, dm, hcv]); first | exact aw )); (case hr => exact xRD)) | ((first | with_reducible apply sg_kv | ((with_reducible apply dg_kv); (case hn => exact rfl))); (case hv => exact rfl); (case ha => exact xDA); (case hl => exact xLs); (case hfc => ((try simp only [List.length_map, he, dm, hcv]); first | exact aw )); (case hr => exact xRD)) | (((with_reducible apply sg_bx); (case hn => exact rfl); (case hv => exact xLT); (case hc => exact xGS); (case hk => exact rfl))) | (((with_reducible apply sg_al); (case hn => exact rfl); (case hz => exact xTY); (case hc => exact xGS); (case hk => exact rfl))) | (((with_reducible apply sg_st); (case hx => exact xLK); (case hv => exact xLT); (case hc => exact xGS); (case hb => exact rfl); (case ht => exact xTY); (case hz => exact rfl); (case hs => exact xGS))) | (((with_reducible apply dg_al); (case hn => exact rfl); (case hz => exact xTY); (case hc => exact xGS))) | (((first | ((with_reducible apply sg_e); (case hc => (intros; simp))) | ((with_reducible apply dg_e); (case hd => exact rfl); (case hn => exact rfl))); (case hs => (simp only [go_sem, Nat.reduceBEq, Nat.reduceBNe, Nat.reduceLT, Nat.reduceGT, Int.reduceGT, Int.reduceMul, Int.reduceAdd, Int.reduceSub, Nat.reduceAdd, Nat.reduceMul, Nat.reduceLeDiff, Nat.reduceEqDiff, Nat.reduceSub, Int.reduceNeg, Int.reduceToNat, Int.reduceLT, Int.reduceLE, Int.reduceEq, Int.cast_ofNat_Int, decide_true, decide_false, Bool.not_true, Bool.not_false, Bool.and_self, reduceIte, reduceCtorEq, List.length_map, he, dm, hcv]; with_reducible rfl)))))
       | ((first | with_reducible apply s_n | ((with_reducible apply d_n); (case ho => exact rfl))); (case hw => exact xWF); (case hd => exact rfl); (case hn => exact rfl))
       | ((with_reducible refine dq_nil ?_); apply d_end; (case hd => kernel_rfl); (case ht => exact xGS); (case hb => exact xGS); (case hk => exact xGS))
       | ((with_reducible apply qs_ct); (case hc => exact xLK); (case he => exact xHB))
       | ((with_reducible apply qs_cf); (case hc => exact xLK); (case he => exact xHB))
       | ((with_reducible apply qs_cond); (case hc => exact xLK); (case hu => exact xUK); all_goals (intro hb))
       | ((first | with_reducible apply s_if | ((with_reducible apply d_if); (case ho => exact rfl))); (case hg => exact rfl); (case hd => exact rfl); (case he => exact rfl); (case hu => exact xUK); all_goals (intro hb))
       | ((first | apply post_r | apply post_a); (case h1 => first | exact r1_t rfl rfl | exact xR); (case he => simp))
       | (refine hK _ ?_; clear hK)
       | (clear hK; refine hK _ ?_; clear hK)
       | (clear hK; clear hK; refine hK _ ?_; clear hK)
       | (clear hK; clear hK; clear hK; refine hK _ ?_; clear hK)
       | (clear hK; clear hK; clear hK; clear hK; refine hK _ ?_; clear hK)
       | fail
      all_goals (repeat (clear hK))
      all_goals rfl
  have hd : decide ((10 : Int) < ((membs s).length : Int)) = false := by simp; omega
  have hN := nP_few hL
  have k3 := c_refParts s hs hL
  have k4 := c_parts s 2000 hs (by omega)
  have hl : (prtsL s).length ≤ 1023 := by rw [prtsL_len]; omega
  rw [List.take_of_length_le (by omega)] at k4
  simp only [Int.cast_ofNat_Int] at k4
  have k5 := c_words (prtsL s) (prtsL s)
  have k6 := c_words ((prtsL s).take m) ((prtsL s).take m)
  rw [decide_eq_true rfl] at k5 k6
  have hmn : (if ((prtsL s).length : Int) < (m : Int) then ((prtsL s).length : Int) else (m : Int)) = ((min (prtsL s).length m : Nat) : Int) := by split <;> omega
  have hmn' : (if (m : Int) < ((prtsL s).length : Int) then (m : Int) else ((prtsL s).length : Int)) = ((min (prtsL s).length m : Nat) : Int) := by split <;> omega
  have hc1 : ((0 : Int) ≤ ((min (prtsL s).length m : Nat) : Int)) = True := by simp
  have hc2 : (((min (prtsL s).length m : Nat) : Int) ≤ ((prtsL s).length : Int)) = True := by simp; omega
  have htk : ((prtsL s).map fun (i : Nat) => AV.int .u64 (i : Int)).take (min (prtsL s).length m) = ((prtsL s).take m).map fun (i : Nat) => AV.int .u64 (i : Int) := by
    rw [← List.map_take]
    congr 1
    rcases Nat.le_total m (prtsL s).length with h | h
    · rw [Nat.min_eq_right h]
    · rw [Nat.min_eq_left h, List.take_length, List.take_of_length_le h]
  repeat' first
   | with_reducible first | refine thenQ_n ?_ | refine thenQ_r ?_ | refine thenQ_e ?_ | refine blockQ_n ?_ | refine blockQ_r ?_ | refine blockQ_e ?_ | refine tri_seq fun K hK => ?_ | refine tri_skip ?_ | refine tri_ret ?_ | refine tri_exit ?_ | refine tri_block ?_ | refine tri_region ?_ | refine sq_nil ?_
   | refine blockQ_o ?_ (by rfl)
   | (with_reducible refine dr (id := 6) [0, 1, 2, 3, 4, 5, 6, 7, 8, 9, 10, 11, 12, 13, 14, 15, 16, 17, 18, 19, 20, 21, 22, 23, 24, 25, 26, 27, 28, 29] [] ?_)
   | (with_reducible refine dr (id := 10) [0, 1, 2, 3, 4, 5, 6, 7, 8, 9, 10, 11, 12, 13, 14, 15, 16, 17, 18, 19, 20] [21] ?_)
   | ((first | with_reducible apply s_w | ((with_reducible apply d_w); (case ho => exact rfl))); (case hw => exact xWT); first | ((with_reducible first | apply sg_q | apply dg_q); (case hd => exact rfl); (case hn => exact rfl); (case he => (first | exact xE0 | ((with_reducible apply e_bi); (case hx => exact xDK); (case hy => exact xDK); (case hs => exact rfl); (case h => (simp only [binI, Int.reduceAdd, Int.reduceSub, Int.reduceMul, Int.reduceLT, Int.reduceLE, Int.reduceGT, Int.reduceEq, Int.reduceNeg, decide_true, decide_false, Bool.not_true, Bool.not_false, List.length_map, hd, hcv, hmn, hmn', htk, hc1, hc2, Int.toNat_natCast, Nat.sub_zero, Int.le_refl]; with_reducible rfl))) | ((with_reducible apply e_ix); (case hx => exact xDK); (case hi => exact xDK); (case ht => exact xTY); (case hz => exact rfl); (case he => (simp only [List.length_map, hd, hcv, hmn, hmn', htk, hc1, hc2, Int.toNat_natCast, Nat.sub_zero, Int.le_refl]; with_reducible rfl)); (case hc => exact xGS)) | ((with_reducible apply e_ln); (case hx => exact xDK); (case ht => exact xTY); (case hn => (first | (simp only [List.length_map, List.length_cons, List.length_nil, List.length_map, hd, hcv, hmn, hmn', htk, hc1, hc2, Int.toNat_natCast, Nat.sub_zero, Int.le_refl]; with_reducible rfl) | rfl))) | ((with_reducible apply e_nt); (case hx => exact xDK); (case h => (first | (simp only [Bool.not_true, Bool.not_false, List.length_map, hd, hcv, hmn, hmn', htk, hc1, hc2, Int.toNat_natCast, Nat.sub_zero, Int.le_refl]; with_reducible rfl) | rfl)))))) | ((first | with_reducible apply sg_k | ((with_reducible apply dg_k); (case hn => exact rfl))); (case ha => exact xDA); (case hfc => ((try simp only [List.length_map, hd, hcv, hmn, hmn', htk, hc1, hc2, Int.toNat_natCast, Nat.sub_zero, Int.le_refl]); first | exact aw | exact k1 | exact k2 | exact k3 | exact k4 | exact k5 | exact k6 )); (case hr => exact xRD)) | ((first | with_reducible apply sg_kv | ((with_reducible apply dg_kv); (case hn => exact rfl))); (case hv => exact rfl); (case ha => exact xDA); (case hl => exact xLs); (case hfc => ((try simp only [List.length_map, hd, hcv, hmn, hmn', htk, hc1, hc2, Int.toNat_natCast, Nat.sub_zero, Int.le_refl]); first | exact aw | exact k1 | exact k2 | exact k3 | exact k4 | exact k5 | exact k6 )); (case hr => exact xRD)) | (((with_reducible apply sg_bx); (case hn => exact rfl); (case hv => exact xLT); (case hc => exact xGS); (case hk => exact rfl))) | (((with_reducible apply sg_al); (case hn => exact rfl); (case hz => exact xTY); (case hc => exact xGS); (case hk => exact rfl))) | (((with_reducible apply sg_st); (case hx => exact xLK); (case hv => exact xLT); (case hc => exact xGS); (case hb => exact rfl); (case ht => exact xTY); (case hz => exact rfl); (case hs => exact xGS))) | (((with_reducible apply dg_al); (case hn => exact rfl); (case hz => exact xTY); (case hc => exact xGS))) | (((first | ((with_reducible apply sg_e); (case hc => (intros; simp))) | ((with_reducible apply dg_e); (case hd => exact rfl); (case hn => exact rfl))); (case hs => (simp only [go_sem, Nat.reduceBEq, Nat.reduceBNe, Nat.reduceLT, Nat.reduceGT, Int.reduceGT, Int.reduceMul, Int.reduceAdd, Int.reduceSub, Nat.reduceAdd, Nat.reduceMul, Nat.reduceLeDiff, Nat.reduceEqDiff, Nat.reduceSub, Int.reduceNeg, Int.reduceToNat, Int.reduceLT, Int.reduceLE, Int.reduceEq, Int.cast_ofNat_Int, decide_true, decide_false, Bool.not_true, Bool.not_false, Bool.and_self, reduceIte, reduceCtorEq, List.length_map, hd, hcv, hmn, hmn', htk, hc1, hc2, Int.toNat_natCast, Nat.sub_zero, Int.le_refl]; with_reducible rfl)))))
   | ((first | with_reducible apply s_n | ((with_reducible apply d_n); (case ho => exact rfl))); (case hw => exact xWF); (case hd => exact rfl); (case hn => exact rfl))
   | ((with_reducible refine dq_nil ?_); apply d_end; (case hd => kernel_rfl); (case ht => exact xGS); (case hb => exact xGS); (case hk => exact xGS))
   | ((with_reducible apply qs_ct); (case hc => exact xLK); (case he => exact xHB))
   | ((with_reducible apply qs_cf); (case hc => exact xLK); (case he => exact xHB))
   | ((with_reducible apply qs_cond); (case hc => exact xLK); (case hu => exact xUK); all_goals (intro hb))
   | ((first | with_reducible apply s_if | ((with_reducible apply d_if); (case ho => exact rfl))); (case hg => exact rfl); (case hd => exact rfl); (case he => exact rfl); (case hu => exact xUK); all_goals (intro hb))
   | ((first | apply post_r | apply post_a); (case h1 => first | exact r1_t rfl rfl | exact xR); (case he => simp))
   | (refine hK _ ?_; clear hK)
   | (clear hK; refine hK _ ?_; clear hK)
   | (clear hK; clear hK; refine hK _ ?_; clear hK)
   | (clear hK; clear hK; clear hK; refine hK _ ?_; clear hK)
   | (clear hK; clear hK; clear hK; clear hK; refine hK _ ?_; clear hK)
   | fail
  all_goals (repeat (clear hK))
  all_goals first | done | rfl | trace_state

end Go.Proofs.YtceleegbbclajaaDoor.AL
