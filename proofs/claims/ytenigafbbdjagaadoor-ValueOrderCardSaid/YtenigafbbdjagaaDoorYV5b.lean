/- Contracts: a text's value, by the document. -/
import Derived.Test.YtenigafbbdjagaaDoorYV5
namespace Go.Proofs.YtenigafbbdjagaaDoor.AL
open Go Go.Proofs
set_option linter.unusedVariables false
set_option linter.unusedSimpArgs false
set_option maxRecDepth 4000

set_option maxHeartbeats 4000000 in
theorem c_refParseP (s : List UInt8) (hs7 : s.length ≤ 70000) (hmm : minusF s = false) : FC Tryd.prog 10 [.str s] (resP (parF s)) := by
  refine fc_of_body (nt := 102) (rs := [.cell 2 23, .tmp 3]) (ts := [(0, _)]) Tryd.func10 rfl rfl rfl rfl (by decide) (Nat.le_of_ble_eq_true rfl) ?_
  have k1 := c_refNull
  by_cases h0 : s = nullS
  · have hd1 : decide (s = [226, 136, 133]) = true := decide_eq_true h0
    unfold parF
    rw [if_pos h0]
    repeat' first
     | with_reducible first | refine thenQ_n ?_ | refine thenQ_r ?_ | refine thenQ_e ?_ | refine blockQ_n ?_ | refine blockQ_r ?_ | refine blockQ_e ?_ | refine tri_seq fun K hK => ?_ | refine tri_skip ?_ | refine tri_ret ?_ | refine tri_exit ?_ | refine tri_block ?_ | refine tri_region ?_ | refine sq_nil ?_
     | refine blockQ_o ?_ (by rfl)
     | ((with_reducible apply s_w); (case hw => exact xWT); first | ((with_reducible apply sg_q); (case hd => exact rfl); (case hn => exact rfl); (case he => (first | exact xE0 | ((with_reducible apply e_bi); (case hx => exact xDK); (case hy => exact xDK); (case hs => exact rfl); (case h => (simp only [binI, Int.reduceAdd, Int.reduceSub, Int.reduceMul, Int.reduceLT, Int.reduceLE, Int.reduceGT, Int.reduceEq, Int.reduceNeg, decide_true, decide_false, Bool.not_true, Bool.not_false, hd1]; with_reducible rfl))) | ((with_reducible apply e_ix); (case hx => exact xDK); (case hi => exact xDK); (case ht => exact xTY); (case hz => exact rfl); (case he => (simp only [hd1]; with_reducible rfl)); (case hc => exact xGS)) | ((with_reducible apply e_ln); (case hx => exact xDK); (case ht => exact xTY); (case hn => (first | (simp only [List.length_map, List.length_cons, List.length_nil, hd1]; with_reducible rfl) | rfl))) | ((with_reducible apply e_nt); (case hx => exact xDK); (case h => (first | (simp only [Bool.not_true, Bool.not_false, hd1]; with_reducible rfl) | rfl)))))) | (((with_reducible apply sg_k); (case ha => exact xDA); (case hfc => ((try simp only [hd1]); first | exact k1 )); (case hr => exact xRT))) | ((with_reducible apply sg_kv); (case hv => exact rfl); (case ha => exact xDA); (case hl => exact xLs); (case hfc => ((try simp only [hd1]); first | exact k1 )); (case hr => exact xRT)) | (((with_reducible apply sg_kf); (case hv => exact rfl); (case hc => (first | exact rfl | (simp only [go_sem]; rfl))); (case ha => exact xDA); (case hl => exact xLs); (case hfc => ((try simp only [hd1]); first | exact k1 )); (case hr => exact xRT))) | (((with_reducible apply sg_nil); (case hn => exact rfl); (case hx => exact xDK); (case ht => exact xTY); intro β hβ)) | (((with_reducible apply sg_bx); (case hn => exact rfl); (case hv => exact xLT); (case hc => exact xGS); (case hk => exact rfl))) | (((with_reducible apply sg_al); (case hn => exact rfl); (case hz => exact xTY); (case hc => exact xGS); (case hk => exact rfl))) | (((with_reducible apply sg_st); (case hx => exact xLK); (case hv => exact xLT); (case hc => exact xGS); (case hb => exact rfl); (case ht => exact xTY); (case hz => exact rfl); (case hs => exact xGS))) | (((with_reducible apply sg_e); (case hc => (intros; simp)); (case hs => (simp only [go_sem, Nat.reduceBEq, Nat.reduceBNe, Nat.reduceLT, Nat.reduceGT, Int.reduceGT, Int.reduceMul, Int.reduceAdd, Int.reduceSub, Nat.reduceAdd, Nat.reduceMul, Nat.reduceLeDiff, Nat.reduceEqDiff, Nat.reduceSub, Int.reduceNeg, Int.reduceToNat, Int.reduceLT, Int.reduceLE, Int.reduceEq, Int.cast_ofNat_Int, decide_true, decide_false, Bool.not_true, Bool.not_false, Bool.and_self, reduceIte, reduceCtorEq, hd1]; with_reducible rfl)))))
     | ((with_reducible apply s_n); (case hw => exact xWF); (case hd => exact rfl); (case hn => exact rfl))
     | ((with_reducible apply qs_ct); (case hc => exact xLK); (case he => exact xHB))
     | ((with_reducible apply qs_cf); (case hc => exact xLK); (case he => exact xHB))
     | ((with_reducible apply qs_cond); (case hc => exact xLK); (case hu => exact xUK); all_goals (intro hb))
     | ((with_reducible apply s_if); (case hg => exact rfl); (case hd => exact rfl); (case he => exact rfl); (case hu => exact xUK); all_goals (intro hb))
     | (apply post_2; (case h1 => first | exact r1_t rfl rfl | exact r1_a rfl | (simp only [go_sem, Nat.reduceBEq, Nat.reduceBNe, Nat.reduceLT, Nat.reduceGT, Int.reduceGT, Int.reduceMul, Int.reduceAdd, Int.reduceSub, Nat.reduceAdd, Nat.reduceMul, Nat.reduceLeDiff, Nat.reduceEqDiff, Nat.reduceSub, Int.reduceNeg, Int.reduceToNat, Int.reduceLT, Int.reduceLE, Int.reduceEq, Int.cast_ofNat_Int, decide_true, decide_false, Bool.not_true, Bool.not_false, Bool.and_self, reduceIte, reduceCtorEq]; with_reducible rfl)); (case h2 => exact r1_t rfl rfl); (case he => simp))
     | ((first | apply post_r | apply post_a); (case h1 => first | exact r1_t rfl rfl | (simp only [go_sem, Nat.reduceBEq, Nat.reduceBNe, Nat.reduceLT, Nat.reduceGT, Int.reduceGT, Int.reduceMul, Int.reduceAdd, Int.reduceSub, Nat.reduceAdd, Nat.reduceMul, Nat.reduceLeDiff, Nat.reduceEqDiff, Nat.reduceSub, Int.reduceNeg, Int.reduceToNat, Int.reduceLT, Int.reduceLE, Int.reduceEq, Int.cast_ofNat_Int, decide_true, decide_false, Bool.not_true, Bool.not_false, Bool.and_self, reduceIte, reduceCtorEq, hd1]; with_reducible rfl)); (case he => simp))
     | (refine hK _ ?_; clear hK)
     | (clear hK; refine hK _ ?_; clear hK)
     | (clear hK; clear hK; refine hK _ ?_; clear hK)
     | (clear hK; clear hK; clear hK; refine hK _ ?_; clear hK)
     | (clear hK; clear hK; clear hK; clear hK; refine hK _ ?_; clear hK)
     | fail
    all_goals (repeat (clear hK))
    all_goals first | done | rfl
  have hd1 : decide (s = [226, 136, 133]) = false := decide_eq_false h0
  obtain ⟨res, hres⟩ : ∃ res, res = parF s := ⟨_, rfl⟩
  rw [← hres]
  cases hl1 : decide (1 < (s.length : Int))
  case false =>
    cases hsc : s with
    | nil =>
      have hE := par_no h0 (digs_no' hsc)
      rw [hE] at hres
      subst hres
      have hl2 : decide (((0 : Nat) : Int) = 0) = true := rfl
      have hl3 : decide ((1 : Int) < ((0 : Nat) : Int)) = false := rfl
      rw [hsc] at hd1
      repeat' first
       | with_reducible first | refine thenQ_n ?_ | refine thenQ_r ?_ | refine thenQ_e ?_ | refine blockQ_n ?_ | refine blockQ_r ?_ | refine blockQ_e ?_ | refine tri_seq fun K hK => ?_ | refine tri_skip ?_ | refine tri_ret ?_ | refine tri_exit ?_ | refine tri_block ?_ | refine tri_region ?_ | refine sq_nil ?_
       | refine blockQ_o ?_ (by rfl)
       | ((with_reducible apply s_w); (case hw => exact xWT); first | ((with_reducible apply sg_q); (case hd => exact rfl); (case hn => exact rfl); (case he => (first | exact xE0 | ((with_reducible apply e_bi); (case hx => exact xDK); (case hy => exact xDK); (case hs => exact rfl); (case h => (simp only [binI, Int.reduceAdd, Int.reduceSub, Int.reduceMul, Int.reduceLT, Int.reduceLE, Int.reduceGT, Int.reduceEq, Int.reduceNeg, decide_true, decide_false, Bool.not_true, Bool.not_false, hd1, hl2, hl3, List.length_nil]; with_reducible rfl))) | ((with_reducible apply e_ix); (case hx => exact xDK); (case hi => exact xDK); (case ht => exact xTY); (case hz => exact rfl); (case he => (simp only [hd1, hl2, hl3, List.length_nil]; with_reducible rfl)); (case hc => exact xGS)) | ((with_reducible apply e_ln); (case hx => exact xDK); (case ht => exact xTY); (case hn => (first | (simp only [List.length_map, List.length_cons, List.length_nil, hd1, hl2, hl3, List.length_nil]; with_reducible rfl) | rfl))) | ((with_reducible apply e_nt); (case hx => exact xDK); (case h => (first | (simp only [Bool.not_true, Bool.not_false, hd1, hl2, hl3, List.length_nil]; with_reducible rfl) | rfl)))))) | (((with_reducible apply sg_k); (case ha => exact xDA); (case hfc => ((try simp only [hd1, hl2, hl3, List.length_nil]); first | exact k1 )); (case hr => exact xRT))) | ((with_reducible apply sg_kv); (case hv => exact rfl); (case ha => exact xDA); (case hl => exact xLs); (case hfc => ((try simp only [hd1, hl2, hl3, List.length_nil]); first | exact k1 )); (case hr => exact xRT)) | (((with_reducible apply sg_kf); (case hv => exact rfl); (case hc => (first | exact rfl | (simp only [go_sem]; rfl))); (case ha => exact xDA); (case hl => exact xLs); (case hfc => ((try simp only [hd1, hl2, hl3, List.length_nil]); first | exact k1 )); (case hr => exact xRT))) | (((with_reducible apply sg_nil); (case hn => exact rfl); (case hx => exact xDK); (case ht => exact xTY); intro β hβ)) | (((with_reducible apply sg_bx); (case hn => exact rfl); (case hv => exact xLT); (case hc => exact xGS); (case hk => exact rfl))) | (((with_reducible apply sg_al); (case hn => exact rfl); (case hz => exact xTY); (case hc => exact xGS); (case hk => exact rfl))) | (((with_reducible apply sg_st); (case hx => exact xLK); (case hv => exact xLT); (case hc => exact xGS); (case hb => exact rfl); (case ht => exact xTY); (case hz => exact rfl); (case hs => exact xGS))) | (((with_reducible apply sg_e); (case hc => (intros; simp)); (case hs => (simp only [go_sem, Nat.reduceBEq, Nat.reduceBNe, Nat.reduceLT, Nat.reduceGT, Int.reduceGT, Int.reduceMul, Int.reduceAdd, Int.reduceSub, Nat.reduceAdd, Nat.reduceMul, Nat.reduceLeDiff, Nat.reduceEqDiff, Nat.reduceSub, Int.reduceNeg, Int.reduceToNat, Int.reduceLT, Int.reduceLE, Int.reduceEq, Int.cast_ofNat_Int, decide_true, decide_false, Bool.not_true, Bool.not_false, Bool.and_self, reduceIte, reduceCtorEq, hd1, hl2, hl3, List.length_nil]; with_reducible rfl)))))
       | ((with_reducible apply s_n); (case hw => exact xWF); (case hd => exact rfl); (case hn => exact rfl))
       | ((with_reducible apply qs_ct); (case hc => exact xLK); (case he => exact xHB))
       | ((with_reducible apply qs_cf); (case hc => exact xLK); (case he => exact xHB))
       | ((with_reducible apply qs_cond); (case hc => exact xLK); (case hu => exact xUK); all_goals (intro hb))
       | ((with_reducible apply s_if); (case hg => exact rfl); (case hd => exact rfl); (case he => exact rfl); (case hu => exact xUK); all_goals (intro hb))
       | (apply post_2; (case h1 => first | exact r1_t rfl rfl | exact r1_a rfl | (simp only [go_sem, Nat.reduceBEq, Nat.reduceBNe, Nat.reduceLT, Nat.reduceGT, Int.reduceGT, Int.reduceMul, Int.reduceAdd, Int.reduceSub, Nat.reduceAdd, Nat.reduceMul, Nat.reduceLeDiff, Nat.reduceEqDiff, Nat.reduceSub, Int.reduceNeg, Int.reduceToNat, Int.reduceLT, Int.reduceLE, Int.reduceEq, Int.cast_ofNat_Int, decide_true, decide_false, Bool.not_true, Bool.not_false, Bool.and_self, reduceIte, reduceCtorEq]; with_reducible rfl)); (case h2 => exact r1_t rfl rfl); (case he => simp))
       | ((first | apply post_r | apply post_a); (case h1 => first | exact r1_t rfl rfl | (simp only [go_sem, Nat.reduceBEq, Nat.reduceBNe, Nat.reduceLT, Nat.reduceGT, Int.reduceGT, Int.reduceMul, Int.reduceAdd, Int.reduceSub, Nat.reduceAdd, Nat.reduceMul, Nat.reduceLeDiff, Nat.reduceEqDiff, Nat.reduceSub, Int.reduceNeg, Int.reduceToNat, Int.reduceLT, Int.reduceLE, Int.reduceEq, Int.cast_ofNat_Int, decide_true, decide_false, Bool.not_true, Bool.not_false, Bool.and_self, reduceIte, reduceCtorEq, hd1, hl2, hl3, List.length_nil]; with_reducible rfl)); (case he => simp))
       | (refine hK _ ?_; clear hK)
       | (clear hK; refine hK _ ?_; clear hK)
       | (clear hK; clear hK; refine hK _ ?_; clear hK)
       | (clear hK; clear hK; clear hK; refine hK _ ?_; clear hK)
       | (clear hK; clear hK; clear hK; clear hK; refine hK _ ?_; clear hK)
       | fail
      all_goals (repeat (clear hK))
      all_goals first | done | rfl
    | cons c r =>
      obtain ⟨t, ht⟩ : ∃ t, t = s := ⟨_, rfl⟩
      have htc : t = c :: r := ht.trans hsc
      have hs := ht.symm
      have hlen : s.length = t.length := by rw [ht]
      have hbody : bodyF s = t := (body_p hmm).trans ht.symm
      have hl2 : decide ((s.length : Int) = 0) = false := by rw [hsc]; simp; omega
      rw [← hsc]
      repeat' first
       | with_reducible first | refine thenQ_n ?_ | refine thenQ_r ?_ | refine thenQ_e ?_ | refine blockQ_n ?_ | refine blockQ_r ?_ | refine blockQ_e ?_ | refine tri_seq fun K hK => ?_ | refine tri_skip ?_ | refine tri_ret ?_ | refine tri_exit ?_ | refine tri_block ?_ | refine tri_region ?_ | refine sq_nil ?_
       | refine blockQ_o ?_ (by rfl)
       | ((with_reducible apply s_w); (case hw => exact xWT); first | ((with_reducible apply sg_q); (case hd => exact rfl); (case hn => exact rfl); (case he => (first | exact xE0 | ((with_reducible apply e_bi); (case hx => exact xDK); (case hy => exact xDK); (case hs => exact rfl); (case h => (simp only [binI, Int.reduceAdd, Int.reduceSub, Int.reduceMul, Int.reduceLT, Int.reduceLE, Int.reduceGT, Int.reduceEq, Int.reduceNeg, decide_true, decide_false, Bool.not_true, Bool.not_false, hd1, hl1, hl2]; with_reducible rfl))) | ((with_reducible apply e_ix); (case hx => exact xDK); (case hi => exact xDK); (case ht => exact xTY); (case hz => exact rfl); (case he => (simp only [hd1, hl1, hl2]; with_reducible rfl)); (case hc => exact xGS)) | ((with_reducible apply e_ln); (case hx => exact xDK); (case ht => exact xTY); (case hn => (first | (simp only [List.length_map, List.length_cons, List.length_nil, hd1, hl1, hl2]; with_reducible rfl) | rfl))) | ((with_reducible apply e_nt); (case hx => exact xDK); (case h => (first | (simp only [Bool.not_true, Bool.not_false, hd1, hl1, hl2]; with_reducible rfl) | rfl)))))) | (((with_reducible apply sg_k); (case ha => exact xDA); (case hfc => ((try simp only [hd1, hl1, hl2]); first | exact k1 )); (case hr => exact xRT))) | ((with_reducible apply sg_kv); (case hv => exact rfl); (case ha => exact xDA); (case hl => exact xLs); (case hfc => ((try simp only [hd1, hl1, hl2]); first | exact k1 )); (case hr => exact xRT)) | (((with_reducible apply sg_kf); (case hv => exact rfl); (case hc => (first | exact rfl | (simp only [go_sem]; rfl))); (case ha => exact xDA); (case hl => exact xLs); (case hfc => ((try simp only [hd1, hl1, hl2]); first | exact k1 )); (case hr => exact xRT))) | (((with_reducible apply sg_nil); (case hn => exact rfl); (case hx => exact xDK); (case ht => exact xTY); intro β hβ)) | (((with_reducible apply sg_bx); (case hn => exact rfl); (case hv => exact xLT); (case hc => exact xGS); (case hk => exact rfl))) | (((with_reducible apply sg_al); (case hn => exact rfl); (case hz => exact xTY); (case hc => exact xGS); (case hk => exact rfl))) | (((with_reducible apply sg_st); (case hx => exact xLK); (case hv => exact xLT); (case hc => exact xGS); (case hb => exact rfl); (case ht => exact xTY); (case hz => exact rfl); (case hs => exact xGS))) | (((with_reducible apply sg_e); (case hc => (intros; simp)); (case hs => (simp only [go_sem, Nat.reduceBEq, Nat.reduceBNe, Nat.reduceLT, Nat.reduceGT, Int.reduceGT, Int.reduceMul, Int.reduceAdd, Int.reduceSub, Nat.reduceAdd, Nat.reduceMul, Nat.reduceLeDiff, Nat.reduceEqDiff, Nat.reduceSub, Int.reduceNeg, Int.reduceToNat, Int.reduceLT, Int.reduceLE, Int.reduceEq, Int.cast_ofNat_Int, decide_true, decide_false, Bool.not_true, Bool.not_false, Bool.and_self, reduceIte, reduceCtorEq, hd1, hl1, hl2]; with_reducible rfl)))))
       | ((with_reducible apply s_n); (case hw => exact xWF); (case hd => exact rfl); (case hn => exact rfl))
       | ((with_reducible apply qs_ct); (case hc => exact xLK); (case he => exact xHB))
       | ((with_reducible apply qs_cf); (case hc => exact xLK); (case he => exact xHB))
       | ((with_reducible apply qs_cond); (case hc => exact xLK); (case hu => exact xUK); all_goals (intro hb))
       | ((with_reducible apply s_if); (case hg => exact rfl); (case hd => exact rfl); (case he => exact rfl); (case hu => exact xUK); all_goals (intro hb))
       | (apply post_2; (case h1 => first | exact r1_t rfl rfl | exact r1_a rfl | (simp only [go_sem, Nat.reduceBEq, Nat.reduceBNe, Nat.reduceLT, Nat.reduceGT, Int.reduceGT, Int.reduceMul, Int.reduceAdd, Int.reduceSub, Nat.reduceAdd, Nat.reduceMul, Nat.reduceLeDiff, Nat.reduceEqDiff, Nat.reduceSub, Int.reduceNeg, Int.reduceToNat, Int.reduceLT, Int.reduceLE, Int.reduceEq, Int.cast_ofNat_Int, decide_true, decide_false, Bool.not_true, Bool.not_false, Bool.and_self, reduceIte, reduceCtorEq]; with_reducible rfl)); (case h2 => exact r1_t rfl rfl); (case he => simp))
       | ((first | apply post_r | apply post_a); (case h1 => first | exact r1_t rfl rfl | (simp only [go_sem, Nat.reduceBEq, Nat.reduceBNe, Nat.reduceLT, Nat.reduceGT, Int.reduceGT, Int.reduceMul, Int.reduceAdd, Int.reduceSub, Nat.reduceAdd, Nat.reduceMul, Nat.reduceLeDiff, Nat.reduceEqDiff, Nat.reduceSub, Int.reduceNeg, Int.reduceToNat, Int.reduceLT, Int.reduceLE, Int.reduceEq, Int.cast_ofNat_Int, decide_true, decide_false, Bool.not_true, Bool.not_false, Bool.and_self, reduceIte, reduceCtorEq, hd1, hl1, hl2]; with_reducible rfl)); (case he => simp))
       | (refine hK _ ?_; clear hK)
       | (clear hK; refine hK _ ?_; clear hK)
       | (clear hK; clear hK; refine hK _ ?_; clear hK)
       | (clear hK; clear hK; clear hK; refine hK _ ?_; clear hK)
       | (clear hK; clear hK; clear hK; clear hK; refine hK _ ?_; clear hK)
       | fail
      refine tri_for (fun q : Nat × Bool × Nat => ⟨102, [(8, .v (.int .i64 (q.1 : Int))), (7, .v (.bool q.2.1)), (6, .v (.int .u64 (q.2.2 : Int))), (5, .v (.int .i64 0)), (4, .v (.bool false)), (2, .loc 2 0), (0, .v (.str s))], [(2, [.v (.bool false), .v (.int .i64 0)])], []⟩) (fun q => q.1 ≤ t.length ∧ (t.take q.1).all digB = true ∧ GN q.2.2 q.2.1 (numA 0 (t.take q.1))) (fun q => t.length - q.1) (0, false, 0) ?_ ⟨Nat.zero_le _, rfl, Nat.zero_le _, .inl ⟨rfl, rfl⟩⟩ ?_
      · exact le_of rfl (by simp [LeT, get]) (by simp [LeT, get, setB]) (by simp [LeK, memK])
      rintro ⟨j, gt, n⟩ ⟨hj, hall, hgn⟩
      simp only at hj hall hgn
      by_cases hlt : j < t.length
      · have hc : decide ((j : Int) < (s.length : Int)) = true := by rw [hlen]; simp; omega
        have hk0 : (0 ≤ (j : Int)) = True := eq_true (Int.natCast_nonneg _)
        have hkt : ((j : Int)).toNat = j := Int.toNat_natCast _
        have hix : s[j]? = some t[j] := by rw [hs, List.getElem?_eq_getElem hlt]
        have hna := num_at hlt
        obtain ⟨b, hb⟩ : ∃ b, b = t[j] := ⟨_, rfl⟩
        rw [← hb] at hix hna
        by_cases hdb : digB b = true
        · have hdb2 := hdb
          simp only [digB, Bool.and_eq_true, decide_eq_true_eq] at hdb
          have hal2 := all_at hlt hall (by rw [← hb]; exact hdb2)
          have hd1 : decide ((b.toNat : Int) < 48) = false := by simp; omega
          have hd2 : decide (57 < (b.toNat : Int)) = false := by simp; omega
          obtain ⟨d, hd⟩ : ∃ d, d = b.toNat - 48 := ⟨_, rfl⟩
          rw [← hd] at hna
          have w1 : IntKind.u8.wrap ((b.toNat : Int) - 48) = (d : Int) := by rw [u8_of (by omega)]; omega
          have w2 : IntKind.u64.wrap (d : Int) = (d : Int) := u64_of (by omega)
          have w3 : IntKind.i64.wrap ((j : Int) + 1) = ((j + 1 : Nat) : Int) := by rw [IntWalk.i64_in _ (by omega)]; rfl
          have w4 := w2
          have w5 := w2
          have m1 := w2
          have m2 := w2
          have m3 := w2
          cases gt
          case true =>
            repeat' first
             | with_reducible first | refine thenQ_n ?_ | refine thenQ_r ?_ | refine thenQ_e ?_ | refine blockQ_n ?_ | refine blockQ_r ?_ | refine blockQ_e ?_ | refine tri_seq fun K hK => ?_ | refine tri_skip ?_ | refine tri_ret ?_ | refine tri_exit ?_ | refine tri_block ?_ | refine tri_region ?_ | refine sq_nil ?_
             | refine blockQ_o ?_ (by rfl)
             | ((with_reducible apply s_w); (case hw => exact xWT); first | ((with_reducible apply sg_q); (case hd => exact rfl); (case hn => exact rfl); (case he => (first | exact xE0 | ((with_reducible apply e_bi); (case hx => exact xDK); (case hy => exact xDK); (case hs => exact rfl); (case h => (simp only [binI, Int.reduceAdd, Int.reduceSub, Int.reduceMul, Int.reduceLT, Int.reduceLE, Int.reduceGT, Int.reduceEq, Int.reduceNeg, decide_true, decide_false, Bool.not_true, Bool.not_false, hc, hk0, hkt, hix, hd1, hd2, w1, w2, w3, w4, w5, m1, m2, m3]; with_reducible rfl))) | ((with_reducible apply e_ix); (case hx => exact xDK); (case hi => exact xDK); (case ht => exact xTY); (case hz => exact rfl); (case he => (simp only [hc, hk0, hkt, hix, hd1, hd2, w1, w2, w3, w4, w5, m1, m2, m3]; with_reducible rfl)); (case hc => exact xGS)) | ((with_reducible apply e_ln); (case hx => exact xDK); (case ht => exact xTY); (case hn => (first | (simp only [List.length_map, List.length_cons, List.length_nil, hc, hk0, hkt, hix, hd1, hd2, w1, w2, w3, w4, w5, m1, m2, m3]; with_reducible rfl) | rfl))) | ((with_reducible apply e_nt); (case hx => exact xDK); (case h => (first | (simp only [Bool.not_true, Bool.not_false, hc, hk0, hkt, hix, hd1, hd2, w1, w2, w3, w4, w5, m1, m2, m3]; with_reducible rfl) | rfl)))))) | (((with_reducible apply sg_nil); (case hn => exact rfl); (case hx => exact xDK); (case ht => exact xTY); intro β hβ)) | (((with_reducible apply sg_bx); (case hn => exact rfl); (case hv => exact xLT); (case hc => exact xGS); (case hk => exact rfl))) | (((with_reducible apply sg_al); (case hn => exact rfl); (case hz => exact xTY); (case hc => exact xGS); (case hk => exact rfl))) | (((with_reducible apply sg_st); (case hx => exact xLK); (case hv => exact xLT); (case hc => exact xGS); (case hb => exact rfl); (case ht => exact xTY); (case hz => exact rfl); (case hs => exact xGS))) | (((with_reducible apply sg_e); (case hc => (intros; simp)); (case hs => (simp only [go_sem, Nat.reduceBEq, Nat.reduceBNe, Nat.reduceLT, Nat.reduceGT, Int.reduceGT, Int.reduceMul, Int.reduceAdd, Int.reduceSub, Nat.reduceAdd, Nat.reduceMul, Nat.reduceLeDiff, Nat.reduceEqDiff, Nat.reduceSub, Int.reduceNeg, Int.reduceToNat, Int.reduceLT, Int.reduceLE, Int.reduceEq, Int.cast_ofNat_Int, decide_true, decide_false, Bool.not_true, Bool.not_false, Bool.and_self, reduceIte, reduceCtorEq, hc, hk0, hkt, hix, hd1, hd2, w1, w2, w3, w4, w5, m1, m2, m3]; with_reducible rfl)))))
             | ((with_reducible apply s_n); (case hw => exact xWF); (case hd => exact rfl); (case hn => exact rfl))
             | ((with_reducible apply qs_ct); (case hc => exact xLK); (case he => exact xHB))
             | ((with_reducible apply qs_cf); (case hc => exact xLK); (case he => exact xHB))
             | ((with_reducible apply qs_cond); (case hc => exact xLK); (case hu => exact xUK); all_goals (intro hb))
             | ((with_reducible apply s_if); (case hg => exact rfl); (case hd => exact rfl); (case he => exact rfl); (case hu => exact xUK); all_goals (intro hb))
             | (apply post_2; (case h1 => first | exact r1_t rfl rfl | exact r1_a rfl | (simp only [go_sem, Nat.reduceBEq, Nat.reduceBNe, Nat.reduceLT, Nat.reduceGT, Int.reduceGT, Int.reduceMul, Int.reduceAdd, Int.reduceSub, Nat.reduceAdd, Nat.reduceMul, Nat.reduceLeDiff, Nat.reduceEqDiff, Nat.reduceSub, Int.reduceNeg, Int.reduceToNat, Int.reduceLT, Int.reduceLE, Int.reduceEq, Int.cast_ofNat_Int, decide_true, decide_false, Bool.not_true, Bool.not_false, Bool.and_self, reduceIte, reduceCtorEq]; with_reducible rfl)); (case h2 => exact r1_t rfl rfl); (case he => simp))
             | ((first | apply post_r | apply post_a); (case h1 => first | exact r1_t rfl rfl | (simp only [go_sem, Nat.reduceBEq, Nat.reduceBNe, Nat.reduceLT, Nat.reduceGT, Int.reduceGT, Int.reduceMul, Int.reduceAdd, Int.reduceSub, Nat.reduceAdd, Nat.reduceMul, Nat.reduceLeDiff, Nat.reduceEqDiff, Nat.reduceSub, Int.reduceNeg, Int.reduceToNat, Int.reduceLT, Int.reduceLE, Int.reduceEq, Int.cast_ofNat_Int, decide_true, decide_false, Bool.not_true, Bool.not_false, Bool.and_self, reduceIte, reduceCtorEq, hc, hk0, hkt, hix, hd1, hd2, w1, w2, w3, w4, w5, m1, m2, m3]; with_reducible rfl)); (case he => simp))
             | (refine hK _ ?_; clear hK)
             | (clear hK; refine hK _ ?_; clear hK)
             | (clear hK; clear hK; refine hK _ ?_; clear hK)
             | (clear hK; clear hK; clear hK; refine hK _ ?_; clear hK)
             | (clear hK; clear hK; clear hK; clear hK; refine hK _ ?_; clear hK)
             | fail
            all_goals (repeat (clear hK))
            all_goals exact ⟨(j + 1, true, n), ⟨hlt, hal2, by rw [hna]; exact hgn.stay⟩, by simp only; omega, le_of rfl (by simp [LeT, get]) (by simp [LeT, get, setB]) (by simp [LeK, memK])⟩
          case false =>
            have hn := hgn.1
            by_cases c1 : 922337203685477580 < n
            · have m1 : decide (922337203685477580 < (n : Int)) = true := by simp; omega
              repeat' first
               | with_reducible first | refine thenQ_n ?_ | refine thenQ_r ?_ | refine thenQ_e ?_ | refine blockQ_n ?_ | refine blockQ_r ?_ | refine blockQ_e ?_ | refine tri_seq fun K hK => ?_ | refine tri_skip ?_ | refine tri_ret ?_ | refine tri_exit ?_ | refine tri_block ?_ | refine tri_region ?_ | refine sq_nil ?_
               | refine blockQ_o ?_ (by rfl)
               | ((with_reducible apply s_w); (case hw => exact xWT); first | ((with_reducible apply sg_q); (case hd => exact rfl); (case hn => exact rfl); (case he => (first | exact xE0 | ((with_reducible apply e_bi); (case hx => exact xDK); (case hy => exact xDK); (case hs => exact rfl); (case h => (simp only [binI, Int.reduceAdd, Int.reduceSub, Int.reduceMul, Int.reduceLT, Int.reduceLE, Int.reduceGT, Int.reduceEq, Int.reduceNeg, decide_true, decide_false, Bool.not_true, Bool.not_false, hc, hk0, hkt, hix, hd1, hd2, w1, w2, w3, w4, w5, m1, m2, m3]; with_reducible rfl))) | ((with_reducible apply e_ix); (case hx => exact xDK); (case hi => exact xDK); (case ht => exact xTY); (case hz => exact rfl); (case he => (simp only [hc, hk0, hkt, hix, hd1, hd2, w1, w2, w3, w4, w5, m1, m2, m3]; with_reducible rfl)); (case hc => exact xGS)) | ((with_reducible apply e_ln); (case hx => exact xDK); (case ht => exact xTY); (case hn => (first | (simp only [List.length_map, List.length_cons, List.length_nil, hc, hk0, hkt, hix, hd1, hd2, w1, w2, w3, w4, w5, m1, m2, m3]; with_reducible rfl) | rfl))) | ((with_reducible apply e_nt); (case hx => exact xDK); (case h => (first | (simp only [Bool.not_true, Bool.not_false, hc, hk0, hkt, hix, hd1, hd2, w1, w2, w3, w4, w5, m1, m2, m3]; with_reducible rfl) | rfl)))))) | (((with_reducible apply sg_nil); (case hn => exact rfl); (case hx => exact xDK); (case ht => exact xTY); intro β hβ)) | (((with_reducible apply sg_bx); (case hn => exact rfl); (case hv => exact xLT); (case hc => exact xGS); (case hk => exact rfl))) | (((with_reducible apply sg_al); (case hn => exact rfl); (case hz => exact xTY); (case hc => exact xGS); (case hk => exact rfl))) | (((with_reducible apply sg_st); (case hx => exact xLK); (case hv => exact xLT); (case hc => exact xGS); (case hb => exact rfl); (case ht => exact xTY); (case hz => exact rfl); (case hs => exact xGS))) | (((with_reducible apply sg_e); (case hc => (intros; simp)); (case hs => (simp only [go_sem, Nat.reduceBEq, Nat.reduceBNe, Nat.reduceLT, Nat.reduceGT, Int.reduceGT, Int.reduceMul, Int.reduceAdd, Int.reduceSub, Nat.reduceAdd, Nat.reduceMul, Nat.reduceLeDiff, Nat.reduceEqDiff, Nat.reduceSub, Int.reduceNeg, Int.reduceToNat, Int.reduceLT, Int.reduceLE, Int.reduceEq, Int.cast_ofNat_Int, decide_true, decide_false, Bool.not_true, Bool.not_false, Bool.and_self, reduceIte, reduceCtorEq, hc, hk0, hkt, hix, hd1, hd2, w1, w2, w3, w4, w5, m1, m2, m3]; with_reducible rfl)))))
               | ((with_reducible apply s_n); (case hw => exact xWF); (case hd => exact rfl); (case hn => exact rfl))
               | ((with_reducible apply qs_ct); (case hc => exact xLK); (case he => exact xHB))
               | ((with_reducible apply qs_cf); (case hc => exact xLK); (case he => exact xHB))
               | ((with_reducible apply qs_cond); (case hc => exact xLK); (case hu => exact xUK); all_goals (intro hb))
               | ((with_reducible apply s_if); (case hg => exact rfl); (case hd => exact rfl); (case he => exact rfl); (case hu => exact xUK); all_goals (intro hb))
               | (apply post_2; (case h1 => first | exact r1_t rfl rfl | exact r1_a rfl | (simp only [go_sem, Nat.reduceBEq, Nat.reduceBNe, Nat.reduceLT, Nat.reduceGT, Int.reduceGT, Int.reduceMul, Int.reduceAdd, Int.reduceSub, Nat.reduceAdd, Nat.reduceMul, Nat.reduceLeDiff, Nat.reduceEqDiff, Nat.reduceSub, Int.reduceNeg, Int.reduceToNat, Int.reduceLT, Int.reduceLE, Int.reduceEq, Int.cast_ofNat_Int, decide_true, decide_false, Bool.not_true, Bool.not_false, Bool.and_self, reduceIte, reduceCtorEq]; with_reducible rfl)); (case h2 => exact r1_t rfl rfl); (case he => simp))
               | ((first | apply post_r | apply post_a); (case h1 => first | exact r1_t rfl rfl | (simp only [go_sem, Nat.reduceBEq, Nat.reduceBNe, Nat.reduceLT, Nat.reduceGT, Int.reduceGT, Int.reduceMul, Int.reduceAdd, Int.reduceSub, Nat.reduceAdd, Nat.reduceMul, Nat.reduceLeDiff, Nat.reduceEqDiff, Nat.reduceSub, Int.reduceNeg, Int.reduceToNat, Int.reduceLT, Int.reduceLE, Int.reduceEq, Int.cast_ofNat_Int, decide_true, decide_false, Bool.not_true, Bool.not_false, Bool.and_self, reduceIte, reduceCtorEq, hc, hk0, hkt, hix, hd1, hd2, w1, w2, w3, w4, w5, m1, m2, m3]; with_reducible rfl)); (case he => simp))
               | (refine hK _ ?_; clear hK)
               | (clear hK; refine hK _ ?_; clear hK)
               | (clear hK; clear hK; refine hK _ ?_; clear hK)
               | (clear hK; clear hK; clear hK; refine hK _ ?_; clear hK)
               | (clear hK; clear hK; clear hK; clear hK; refine hK _ ?_; clear hK)
               | fail
              all_goals (repeat (clear hK))
              all_goals exact ⟨(j + 1, true, n), ⟨hlt, hal2, by rw [hna]; exact hgn.over (.inl c1)⟩, by simp only; omega, le_of rfl (by simp [LeT, get]) (by simp [LeT, get, setB]) (by simp [LeK, memK])⟩
            · have m1 : decide (922337203685477580 < (n : Int)) = false := by simp; omega
              have w4 : IntKind.u64.wrap (10 * (n : Int)) = ((10 * n : Nat) : Int) := by have := u64_of (n := 10 * n) (by omega); rw [Int.natCast_mul] at this ⊢; exact this
              have w5 : IntKind.u64.wrap (((10 * n : Nat) : Int) + (d : Int)) = ((10 * n + d : Nat) : Int) := by have := u64_of (n := 10 * n + d) (by omega); rw [Int.natCast_add] at this ⊢; exact this
              by_cases c2 : n = 922337203685477580
              · have m2 : decide ((n : Int) = 922337203685477580) = true := by simp; omega
                by_cases c3 : 8 < d
                · have m3 : decide (8 < (d : Int)) = true := by simp; omega
                  repeat' first
                   | with_reducible first | refine thenQ_n ?_ | refine thenQ_r ?_ | refine thenQ_e ?_ | refine blockQ_n ?_ | refine blockQ_r ?_ | refine blockQ_e ?_ | refine tri_seq fun K hK => ?_ | refine tri_skip ?_ | refine tri_ret ?_ | refine tri_exit ?_ | refine tri_block ?_ | refine tri_region ?_ | refine sq_nil ?_
                   | refine blockQ_o ?_ (by rfl)
                   | ((with_reducible apply s_w); (case hw => exact xWT); first | ((with_reducible apply sg_q); (case hd => exact rfl); (case hn => exact rfl); (case he => (first | exact xE0 | ((with_reducible apply e_bi); (case hx => exact xDK); (case hy => exact xDK); (case hs => exact rfl); (case h => (simp only [binI, Int.reduceAdd, Int.reduceSub, Int.reduceMul, Int.reduceLT, Int.reduceLE, Int.reduceGT, Int.reduceEq, Int.reduceNeg, decide_true, decide_false, Bool.not_true, Bool.not_false, hc, hk0, hkt, hix, hd1, hd2, w1, w2, w3, w4, w5, m1, m2, m3]; with_reducible rfl))) | ((with_reducible apply e_ix); (case hx => exact xDK); (case hi => exact xDK); (case ht => exact xTY); (case hz => exact rfl); (case he => (simp only [hc, hk0, hkt, hix, hd1, hd2, w1, w2, w3, w4, w5, m1, m2, m3]; with_reducible rfl)); (case hc => exact xGS)) | ((with_reducible apply e_ln); (case hx => exact xDK); (case ht => exact xTY); (case hn => (first | (simp only [List.length_map, List.length_cons, List.length_nil, hc, hk0, hkt, hix, hd1, hd2, w1, w2, w3, w4, w5, m1, m2, m3]; with_reducible rfl) | rfl))) | ((with_reducible apply e_nt); (case hx => exact xDK); (case h => (first | (simp only [Bool.not_true, Bool.not_false, hc, hk0, hkt, hix, hd1, hd2, w1, w2, w3, w4, w5, m1, m2, m3]; with_reducible rfl) | rfl)))))) | (((with_reducible apply sg_nil); (case hn => exact rfl); (case hx => exact xDK); (case ht => exact xTY); intro β hβ)) | (((with_reducible apply sg_bx); (case hn => exact rfl); (case hv => exact xLT); (case hc => exact xGS); (case hk => exact rfl))) | (((with_reducible apply sg_al); (case hn => exact rfl); (case hz => exact xTY); (case hc => exact xGS); (case hk => exact rfl))) | (((with_reducible apply sg_st); (case hx => exact xLK); (case hv => exact xLT); (case hc => exact xGS); (case hb => exact rfl); (case ht => exact xTY); (case hz => exact rfl); (case hs => exact xGS))) | (((with_reducible apply sg_e); (case hc => (intros; simp)); (case hs => (simp only [go_sem, Nat.reduceBEq, Nat.reduceBNe, Nat.reduceLT, Nat.reduceGT, Int.reduceGT, Int.reduceMul, Int.reduceAdd, Int.reduceSub, Nat.reduceAdd, Nat.reduceMul, Nat.reduceLeDiff, Nat.reduceEqDiff, Nat.reduceSub, Int.reduceNeg, Int.reduceToNat, Int.reduceLT, Int.reduceLE, Int.reduceEq, Int.cast_ofNat_Int, decide_true, decide_false, Bool.not_true, Bool.not_false, Bool.and_self, reduceIte, reduceCtorEq, hc, hk0, hkt, hix, hd1, hd2, w1, w2, w3, w4, w5, m1, m2, m3]; with_reducible rfl)))))
                   | ((with_reducible apply s_n); (case hw => exact xWF); (case hd => exact rfl); (case hn => exact rfl))
                   | ((with_reducible apply qs_ct); (case hc => exact xLK); (case he => exact xHB))
                   | ((with_reducible apply qs_cf); (case hc => exact xLK); (case he => exact xHB))
                   | ((with_reducible apply qs_cond); (case hc => exact xLK); (case hu => exact xUK); all_goals (intro hb))
                   | ((with_reducible apply s_if); (case hg => exact rfl); (case hd => exact rfl); (case he => exact rfl); (case hu => exact xUK); all_goals (intro hb))
                   | (apply post_2; (case h1 => first | exact r1_t rfl rfl | exact r1_a rfl | (simp only [go_sem, Nat.reduceBEq, Nat.reduceBNe, Nat.reduceLT, Nat.reduceGT, Int.reduceGT, Int.reduceMul, Int.reduceAdd, Int.reduceSub, Nat.reduceAdd, Nat.reduceMul, Nat.reduceLeDiff, Nat.reduceEqDiff, Nat.reduceSub, Int.reduceNeg, Int.reduceToNat, Int.reduceLT, Int.reduceLE, Int.reduceEq, Int.cast_ofNat_Int, decide_true, decide_false, Bool.not_true, Bool.not_false, Bool.and_self, reduceIte, reduceCtorEq]; with_reducible rfl)); (case h2 => exact r1_t rfl rfl); (case he => simp))
                   | ((first | apply post_r | apply post_a); (case h1 => first | exact r1_t rfl rfl | (simp only [go_sem, Nat.reduceBEq, Nat.reduceBNe, Nat.reduceLT, Nat.reduceGT, Int.reduceGT, Int.reduceMul, Int.reduceAdd, Int.reduceSub, Nat.reduceAdd, Nat.reduceMul, Nat.reduceLeDiff, Nat.reduceEqDiff, Nat.reduceSub, Int.reduceNeg, Int.reduceToNat, Int.reduceLT, Int.reduceLE, Int.reduceEq, Int.cast_ofNat_Int, decide_true, decide_false, Bool.not_true, Bool.not_false, Bool.and_self, reduceIte, reduceCtorEq, hc, hk0, hkt, hix, hd1, hd2, w1, w2, w3, w4, w5, m1, m2, m3]; with_reducible rfl)); (case he => simp))
                   | (refine hK _ ?_; clear hK)
                   | (clear hK; refine hK _ ?_; clear hK)
                   | (clear hK; clear hK; refine hK _ ?_; clear hK)
                   | (clear hK; clear hK; clear hK; refine hK _ ?_; clear hK)
                   | (clear hK; clear hK; clear hK; clear hK; refine hK _ ?_; clear hK)
                   | fail
                  all_goals (repeat (clear hK))
                  all_goals exact ⟨(j + 1, true, n), ⟨hlt, hal2, by rw [hna]; exact hgn.over (.inr ⟨c2, c3⟩)⟩, by simp only; omega, le_of rfl (by simp [LeT, get]) (by simp [LeT, get, setB]) (by simp [LeK, memK])⟩
                · have m3 : decide (8 < (d : Int)) = false := by simp; omega
                  repeat' first
                   | with_reducible first | refine thenQ_n ?_ | refine thenQ_r ?_ | refine thenQ_e ?_ | refine blockQ_n ?_ | refine blockQ_r ?_ | refine blockQ_e ?_ | refine tri_seq fun K hK => ?_ | refine tri_skip ?_ | refine tri_ret ?_ | refine tri_exit ?_ | refine tri_block ?_ | refine tri_region ?_ | refine sq_nil ?_
                   | refine blockQ_o ?_ (by rfl)
                   | ((with_reducible apply s_w); (case hw => exact xWT); first | ((with_reducible apply sg_q); (case hd => exact rfl); (case hn => exact rfl); (case he => (first | exact xE0 | ((with_reducible apply e_bi); (case hx => exact xDK); (case hy => exact xDK); (case hs => exact rfl); (case h => (simp only [binI, Int.reduceAdd, Int.reduceSub, Int.reduceMul, Int.reduceLT, Int.reduceLE, Int.reduceGT, Int.reduceEq, Int.reduceNeg, decide_true, decide_false, Bool.not_true, Bool.not_false, hc, hk0, hkt, hix, hd1, hd2, w1, w2, w3, w4, w5, m1, m2, m3]; with_reducible rfl))) | ((with_reducible apply e_ix); (case hx => exact xDK); (case hi => exact xDK); (case ht => exact xTY); (case hz => exact rfl); (case he => (simp only [hc, hk0, hkt, hix, hd1, hd2, w1, w2, w3, w4, w5, m1, m2, m3]; with_reducible rfl)); (case hc => exact xGS)) | ((with_reducible apply e_ln); (case hx => exact xDK); (case ht => exact xTY); (case hn => (first | (simp only [List.length_map, List.length_cons, List.length_nil, hc, hk0, hkt, hix, hd1, hd2, w1, w2, w3, w4, w5, m1, m2, m3]; with_reducible rfl) | rfl))) | ((with_reducible apply e_nt); (case hx => exact xDK); (case h => (first | (simp only [Bool.not_true, Bool.not_false, hc, hk0, hkt, hix, hd1, hd2, w1, w2, w3, w4, w5, m1, m2, m3]; with_reducible rfl) | rfl)))))) | (((with_reducible apply sg_nil); (case hn => exact rfl); (case hx => exact xDK); (case ht => exact xTY); intro β hβ)) | (((with_reducible apply sg_bx); (case hn => exact rfl); (case hv => exact xLT); (case hc => exact xGS); (case hk => exact rfl))) | (((with_reducible apply sg_al); (case hn => exact rfl); (case hz => exact xTY); (case hc => exact xGS); (case hk => exact rfl))) | (((with_reducible apply sg_st); (case hx => exact xLK); (case hv => exact xLT); (case hc => exact xGS); (case hb => exact rfl); (case ht => exact xTY); (case hz => exact rfl); (case hs => exact xGS))) | (((with_reducible apply sg_e); (case hc => (intros; simp)); (case hs => (simp only [go_sem, Nat.reduceBEq, Nat.reduceBNe, Nat.reduceLT, Nat.reduceGT, Int.reduceGT, Int.reduceMul, Int.reduceAdd, Int.reduceSub, Nat.reduceAdd, Nat.reduceMul, Nat.reduceLeDiff, Nat.reduceEqDiff, Nat.reduceSub, Int.reduceNeg, Int.reduceToNat, Int.reduceLT, Int.reduceLE, Int.reduceEq, Int.cast_ofNat_Int, decide_true, decide_false, Bool.not_true, Bool.not_false, Bool.and_self, reduceIte, reduceCtorEq, hc, hk0, hkt, hix, hd1, hd2, w1, w2, w3, w4, w5, m1, m2, m3]; with_reducible rfl)))))
                   | ((with_reducible apply s_n); (case hw => exact xWF); (case hd => exact rfl); (case hn => exact rfl))
                   | ((with_reducible apply qs_ct); (case hc => exact xLK); (case he => exact xHB))
                   | ((with_reducible apply qs_cf); (case hc => exact xLK); (case he => exact xHB))
                   | ((with_reducible apply qs_cond); (case hc => exact xLK); (case hu => exact xUK); all_goals (intro hb))
                   | ((with_reducible apply s_if); (case hg => exact rfl); (case hd => exact rfl); (case he => exact rfl); (case hu => exact xUK); all_goals (intro hb))
                   | (apply post_2; (case h1 => first | exact r1_t rfl rfl | exact r1_a rfl | (simp only [go_sem, Nat.reduceBEq, Nat.reduceBNe, Nat.reduceLT, Nat.reduceGT, Int.reduceGT, Int.reduceMul, Int.reduceAdd, Int.reduceSub, Nat.reduceAdd, Nat.reduceMul, Nat.reduceLeDiff, Nat.reduceEqDiff, Nat.reduceSub, Int.reduceNeg, Int.reduceToNat, Int.reduceLT, Int.reduceLE, Int.reduceEq, Int.cast_ofNat_Int, decide_true, decide_false, Bool.not_true, Bool.not_false, Bool.and_self, reduceIte, reduceCtorEq]; with_reducible rfl)); (case h2 => exact r1_t rfl rfl); (case he => simp))
                   | ((first | apply post_r | apply post_a); (case h1 => first | exact r1_t rfl rfl | (simp only [go_sem, Nat.reduceBEq, Nat.reduceBNe, Nat.reduceLT, Nat.reduceGT, Int.reduceGT, Int.reduceMul, Int.reduceAdd, Int.reduceSub, Nat.reduceAdd, Nat.reduceMul, Nat.reduceLeDiff, Nat.reduceEqDiff, Nat.reduceSub, Int.reduceNeg, Int.reduceToNat, Int.reduceLT, Int.reduceLE, Int.reduceEq, Int.cast_ofNat_Int, decide_true, decide_false, Bool.not_true, Bool.not_false, Bool.and_self, reduceIte, reduceCtorEq, hc, hk0, hkt, hix, hd1, hd2, w1, w2, w3, w4, w5, m1, m2, m3]; with_reducible rfl)); (case he => simp))
                   | (refine hK _ ?_; clear hK)
                   | (clear hK; refine hK _ ?_; clear hK)
                   | (clear hK; clear hK; refine hK _ ?_; clear hK)
                   | (clear hK; clear hK; clear hK; refine hK _ ?_; clear hK)
                   | (clear hK; clear hK; clear hK; clear hK; refine hK _ ?_; clear hK)
                   | fail
                  all_goals (repeat (clear hK))
                  all_goals exact ⟨(j + 1, false, 10 * n + d), ⟨hlt, hal2, by rw [hna]; exact hgn.next (by omega) (.inr ⟨c2, c3⟩)⟩, by simp only; omega, le_of rfl (by simp [LeT, get]) (by simp [LeT, get, setB]) (by simp [LeK, memK])⟩
              · have m2 : decide ((n : Int) = 922337203685477580) = false := by simp; omega
                repeat' first
                 | with_reducible first | refine thenQ_n ?_ | refine thenQ_r ?_ | refine thenQ_e ?_ | refine blockQ_n ?_ | refine blockQ_r ?_ | refine blockQ_e ?_ | refine tri_seq fun K hK => ?_ | refine tri_skip ?_ | refine tri_ret ?_ | refine tri_exit ?_ | refine tri_block ?_ | refine tri_region ?_ | refine sq_nil ?_
                 | refine blockQ_o ?_ (by rfl)
                 | ((with_reducible apply s_w); (case hw => exact xWT); first | ((with_reducible apply sg_q); (case hd => exact rfl); (case hn => exact rfl); (case he => (first | exact xE0 | ((with_reducible apply e_bi); (case hx => exact xDK); (case hy => exact xDK); (case hs => exact rfl); (case h => (simp only [binI, Int.reduceAdd, Int.reduceSub, Int.reduceMul, Int.reduceLT, Int.reduceLE, Int.reduceGT, Int.reduceEq, Int.reduceNeg, decide_true, decide_false, Bool.not_true, Bool.not_false, hc, hk0, hkt, hix, hd1, hd2, w1, w2, w3, w4, w5, m1, m2, m3]; with_reducible rfl))) | ((with_reducible apply e_ix); (case hx => exact xDK); (case hi => exact xDK); (case ht => exact xTY); (case hz => exact rfl); (case he => (simp only [hc, hk0, hkt, hix, hd1, hd2, w1, w2, w3, w4, w5, m1, m2, m3]; with_reducible rfl)); (case hc => exact xGS)) | ((with_reducible apply e_ln); (case hx => exact xDK); (case ht => exact xTY); (case hn => (first | (simp only [List.length_map, List.length_cons, List.length_nil, hc, hk0, hkt, hix, hd1, hd2, w1, w2, w3, w4, w5, m1, m2, m3]; with_reducible rfl) | rfl))) | ((with_reducible apply e_nt); (case hx => exact xDK); (case h => (first | (simp only [Bool.not_true, Bool.not_false, hc, hk0, hkt, hix, hd1, hd2, w1, w2, w3, w4, w5, m1, m2, m3]; with_reducible rfl) | rfl)))))) | (((with_reducible apply sg_nil); (case hn => exact rfl); (case hx => exact xDK); (case ht => exact xTY); intro β hβ)) | (((with_reducible apply sg_bx); (case hn => exact rfl); (case hv => exact xLT); (case hc => exact xGS); (case hk => exact rfl))) | (((with_reducible apply sg_al); (case hn => exact rfl); (case hz => exact xTY); (case hc => exact xGS); (case hk => exact rfl))) | (((with_reducible apply sg_st); (case hx => exact xLK); (case hv => exact xLT); (case hc => exact xGS); (case hb => exact rfl); (case ht => exact xTY); (case hz => exact rfl); (case hs => exact xGS))) | (((with_reducible apply sg_e); (case hc => (intros; simp)); (case hs => (simp only [go_sem, Nat.reduceBEq, Nat.reduceBNe, Nat.reduceLT, Nat.reduceGT, Int.reduceGT, Int.reduceMul, Int.reduceAdd, Int.reduceSub, Nat.reduceAdd, Nat.reduceMul, Nat.reduceLeDiff, Nat.reduceEqDiff, Nat.reduceSub, Int.reduceNeg, Int.reduceToNat, Int.reduceLT, Int.reduceLE, Int.reduceEq, Int.cast_ofNat_Int, decide_true, decide_false, Bool.not_true, Bool.not_false, Bool.and_self, reduceIte, reduceCtorEq, hc, hk0, hkt, hix, hd1, hd2, w1, w2, w3, w4, w5, m1, m2, m3]; with_reducible rfl)))))
                 | ((with_reducible apply s_n); (case hw => exact xWF); (case hd => exact rfl); (case hn => exact rfl))
                 | ((with_reducible apply qs_ct); (case hc => exact xLK); (case he => exact xHB))
                 | ((with_reducible apply qs_cf); (case hc => exact xLK); (case he => exact xHB))
                 | ((with_reducible apply qs_cond); (case hc => exact xLK); (case hu => exact xUK); all_goals (intro hb))
                 | ((with_reducible apply s_if); (case hg => exact rfl); (case hd => exact rfl); (case he => exact rfl); (case hu => exact xUK); all_goals (intro hb))
                 | (apply post_2; (case h1 => first | exact r1_t rfl rfl | exact r1_a rfl | (simp only [go_sem, Nat.reduceBEq, Nat.reduceBNe, Nat.reduceLT, Nat.reduceGT, Int.reduceGT, Int.reduceMul, Int.reduceAdd, Int.reduceSub, Nat.reduceAdd, Nat.reduceMul, Nat.reduceLeDiff, Nat.reduceEqDiff, Nat.reduceSub, Int.reduceNeg, Int.reduceToNat, Int.reduceLT, Int.reduceLE, Int.reduceEq, Int.cast_ofNat_Int, decide_true, decide_false, Bool.not_true, Bool.not_false, Bool.and_self, reduceIte, reduceCtorEq]; with_reducible rfl)); (case h2 => exact r1_t rfl rfl); (case he => simp))
                 | ((first | apply post_r | apply post_a); (case h1 => first | exact r1_t rfl rfl | (simp only [go_sem, Nat.reduceBEq, Nat.reduceBNe, Nat.reduceLT, Nat.reduceGT, Int.reduceGT, Int.reduceMul, Int.reduceAdd, Int.reduceSub, Nat.reduceAdd, Nat.reduceMul, Nat.reduceLeDiff, Nat.reduceEqDiff, Nat.reduceSub, Int.reduceNeg, Int.reduceToNat, Int.reduceLT, Int.reduceLE, Int.reduceEq, Int.cast_ofNat_Int, decide_true, decide_false, Bool.not_true, Bool.not_false, Bool.and_self, reduceIte, reduceCtorEq, hc, hk0, hkt, hix, hd1, hd2, w1, w2, w3, w4, w5, m1, m2, m3]; with_reducible rfl)); (case he => simp))
                 | (refine hK _ ?_; clear hK)
                 | (clear hK; refine hK _ ?_; clear hK)
                 | (clear hK; clear hK; refine hK _ ?_; clear hK)
                 | (clear hK; clear hK; clear hK; refine hK _ ?_; clear hK)
                 | (clear hK; clear hK; clear hK; clear hK; refine hK _ ?_; clear hK)
                 | fail
                all_goals (repeat (clear hK))
                all_goals exact ⟨(j + 1, false, 10 * n + d), ⟨hlt, hal2, by rw [hna]; exact hgn.next (by omega) (.inl (by omega))⟩, by simp only; omega, le_of rfl (by simp [LeT, get]) (by simp [LeT, get, setB]) (by simp [LeK, memK])⟩
        · have hE := par_no h0 (digs_no (s := s) (by rw [hbody]; exact all_no hlt (by rw [← hb]; simpa using hdb)))
          rw [hE] at hres
          subst hres
          have hdb2 : digB b = false := by simpa using hdb
          simp only [digB, Bool.and_eq_false_iff, decide_eq_false_iff_not] at hdb2
          by_cases c1 : b.toNat < 48
          · have hd1 : decide ((b.toNat : Int) < 48) = true := by simp; omega
            have hd2 := hd1
            repeat' first
             | with_reducible first | refine thenQ_n ?_ | refine thenQ_r ?_ | refine thenQ_e ?_ | refine blockQ_n ?_ | refine blockQ_r ?_ | refine blockQ_e ?_ | refine tri_seq fun K hK => ?_ | refine tri_skip ?_ | refine tri_ret ?_ | refine tri_exit ?_ | refine tri_block ?_ | refine tri_region ?_ | refine sq_nil ?_
             | refine blockQ_o ?_ (by rfl)
             | ((with_reducible apply s_w); (case hw => exact xWT); first | ((with_reducible apply sg_q); (case hd => exact rfl); (case hn => exact rfl); (case he => (first | exact xE0 | ((with_reducible apply e_bi); (case hx => exact xDK); (case hy => exact xDK); (case hs => exact rfl); (case h => (simp only [binI, Int.reduceAdd, Int.reduceSub, Int.reduceMul, Int.reduceLT, Int.reduceLE, Int.reduceGT, Int.reduceEq, Int.reduceNeg, decide_true, decide_false, Bool.not_true, Bool.not_false, hc, hk0, hkt, hix, hd1, hd2]; with_reducible rfl))) | ((with_reducible apply e_ix); (case hx => exact xDK); (case hi => exact xDK); (case ht => exact xTY); (case hz => exact rfl); (case he => (simp only [hc, hk0, hkt, hix, hd1, hd2]; with_reducible rfl)); (case hc => exact xGS)) | ((with_reducible apply e_ln); (case hx => exact xDK); (case ht => exact xTY); (case hn => (first | (simp only [List.length_map, List.length_cons, List.length_nil, hc, hk0, hkt, hix, hd1, hd2]; with_reducible rfl) | rfl))) | ((with_reducible apply e_nt); (case hx => exact xDK); (case h => (first | (simp only [Bool.not_true, Bool.not_false, hc, hk0, hkt, hix, hd1, hd2]; with_reducible rfl) | rfl)))))) | (((with_reducible apply sg_nil); (case hn => exact rfl); (case hx => exact xDK); (case ht => exact xTY); intro β hβ)) | (((with_reducible apply sg_bx); (case hn => exact rfl); (case hv => exact xLT); (case hc => exact xGS); (case hk => exact rfl))) | (((with_reducible apply sg_al); (case hn => exact rfl); (case hz => exact xTY); (case hc => exact xGS); (case hk => exact rfl))) | (((with_reducible apply sg_st); (case hx => exact xLK); (case hv => exact xLT); (case hc => exact xGS); (case hb => exact rfl); (case ht => exact xTY); (case hz => exact rfl); (case hs => exact xGS))) | (((with_reducible apply sg_e); (case hc => (intros; simp)); (case hs => (simp only [go_sem, Nat.reduceBEq, Nat.reduceBNe, Nat.reduceLT, Nat.reduceGT, Int.reduceGT, Int.reduceMul, Int.reduceAdd, Int.reduceSub, Nat.reduceAdd, Nat.reduceMul, Nat.reduceLeDiff, Nat.reduceEqDiff, Nat.reduceSub, Int.reduceNeg, Int.reduceToNat, Int.reduceLT, Int.reduceLE, Int.reduceEq, Int.cast_ofNat_Int, decide_true, decide_false, Bool.not_true, Bool.not_false, Bool.and_self, reduceIte, reduceCtorEq, hc, hk0, hkt, hix, hd1, hd2]; with_reducible rfl)))))
             | ((with_reducible apply s_n); (case hw => exact xWF); (case hd => exact rfl); (case hn => exact rfl))
             | ((with_reducible apply qs_ct); (case hc => exact xLK); (case he => exact xHB))
             | ((with_reducible apply qs_cf); (case hc => exact xLK); (case he => exact xHB))
             | ((with_reducible apply qs_cond); (case hc => exact xLK); (case hu => exact xUK); all_goals (intro hb))
             | ((with_reducible apply s_if); (case hg => exact rfl); (case hd => exact rfl); (case he => exact rfl); (case hu => exact xUK); all_goals (intro hb))
             | (apply post_2; (case h1 => first | exact r1_t rfl rfl | exact r1_a rfl | (simp only [go_sem, Nat.reduceBEq, Nat.reduceBNe, Nat.reduceLT, Nat.reduceGT, Int.reduceGT, Int.reduceMul, Int.reduceAdd, Int.reduceSub, Nat.reduceAdd, Nat.reduceMul, Nat.reduceLeDiff, Nat.reduceEqDiff, Nat.reduceSub, Int.reduceNeg, Int.reduceToNat, Int.reduceLT, Int.reduceLE, Int.reduceEq, Int.cast_ofNat_Int, decide_true, decide_false, Bool.not_true, Bool.not_false, Bool.and_self, reduceIte, reduceCtorEq]; with_reducible rfl)); (case h2 => exact r1_t rfl rfl); (case he => simp))
             | ((first | apply post_r | apply post_a); (case h1 => first | exact r1_t rfl rfl | (simp only [go_sem, Nat.reduceBEq, Nat.reduceBNe, Nat.reduceLT, Nat.reduceGT, Int.reduceGT, Int.reduceMul, Int.reduceAdd, Int.reduceSub, Nat.reduceAdd, Nat.reduceMul, Nat.reduceLeDiff, Nat.reduceEqDiff, Nat.reduceSub, Int.reduceNeg, Int.reduceToNat, Int.reduceLT, Int.reduceLE, Int.reduceEq, Int.cast_ofNat_Int, decide_true, decide_false, Bool.not_true, Bool.not_false, Bool.and_self, reduceIte, reduceCtorEq, hc, hk0, hkt, hix, hd1, hd2]; with_reducible rfl)); (case he => simp))
             | (refine hK _ ?_; clear hK)
             | (clear hK; refine hK _ ?_; clear hK)
             | (clear hK; clear hK; refine hK _ ?_; clear hK)
             | (clear hK; clear hK; clear hK; refine hK _ ?_; clear hK)
             | (clear hK; clear hK; clear hK; clear hK; refine hK _ ?_; clear hK)
             | fail
            all_goals (repeat (clear hK))
            all_goals first | done | rfl
          · have hd1 : decide ((b.toNat : Int) < 48) = false := by simp; omega
            have hd2 : decide (57 < (b.toNat : Int)) = true := by simp; omega
            repeat' first
             | with_reducible first | refine thenQ_n ?_ | refine thenQ_r ?_ | refine thenQ_e ?_ | refine blockQ_n ?_ | refine blockQ_r ?_ | refine blockQ_e ?_ | refine tri_seq fun K hK => ?_ | refine tri_skip ?_ | refine tri_ret ?_ | refine tri_exit ?_ | refine tri_block ?_ | refine tri_region ?_ | refine sq_nil ?_
             | refine blockQ_o ?_ (by rfl)
             | ((with_reducible apply s_w); (case hw => exact xWT); first | ((with_reducible apply sg_q); (case hd => exact rfl); (case hn => exact rfl); (case he => (first | exact xE0 | ((with_reducible apply e_bi); (case hx => exact xDK); (case hy => exact xDK); (case hs => exact rfl); (case h => (simp only [binI, Int.reduceAdd, Int.reduceSub, Int.reduceMul, Int.reduceLT, Int.reduceLE, Int.reduceGT, Int.reduceEq, Int.reduceNeg, decide_true, decide_false, Bool.not_true, Bool.not_false, hc, hk0, hkt, hix, hd1, hd2]; with_reducible rfl))) | ((with_reducible apply e_ix); (case hx => exact xDK); (case hi => exact xDK); (case ht => exact xTY); (case hz => exact rfl); (case he => (simp only [hc, hk0, hkt, hix, hd1, hd2]; with_reducible rfl)); (case hc => exact xGS)) | ((with_reducible apply e_ln); (case hx => exact xDK); (case ht => exact xTY); (case hn => (first | (simp only [List.length_map, List.length_cons, List.length_nil, hc, hk0, hkt, hix, hd1, hd2]; with_reducible rfl) | rfl))) | ((with_reducible apply e_nt); (case hx => exact xDK); (case h => (first | (simp only [Bool.not_true, Bool.not_false, hc, hk0, hkt, hix, hd1, hd2]; with_reducible rfl) | rfl)))))) | (((with_reducible apply sg_nil); (case hn => exact rfl); (case hx => exact xDK); (case ht => exact xTY); intro β hβ)) | (((with_reducible apply sg_bx); (case hn => exact rfl); (case hv => exact xLT); (case hc => exact xGS); (case hk => exact rfl))) | (((with_reducible apply sg_al); (case hn => exact rfl); (case hz => exact xTY); (case hc => exact xGS); (case hk => exact rfl))) | (((with_reducible apply sg_st); (case hx => exact xLK); (case hv => exact xLT); (case hc => exact xGS); (case hb => exact rfl); (case ht => exact xTY); (case hz => exact rfl); (case hs => exact xGS))) | (((with_reducible apply sg_e); (case hc => (intros; simp)); (case hs => (simp only [go_sem, Nat.reduceBEq, Nat.reduceBNe, Nat.reduceLT, Nat.reduceGT, Int.reduceGT, Int.reduceMul, Int.reduceAdd, Int.reduceSub, Nat.reduceAdd, Nat.reduceMul, Nat.reduceLeDiff, Nat.reduceEqDiff, Nat.reduceSub, Int.reduceNeg, Int.reduceToNat, Int.reduceLT, Int.reduceLE, Int.reduceEq, Int.cast_ofNat_Int, decide_true, decide_false, Bool.not_true, Bool.not_false, Bool.and_self, reduceIte, reduceCtorEq, hc, hk0, hkt, hix, hd1, hd2]; with_reducible rfl)))))
             | ((with_reducible apply s_n); (case hw => exact xWF); (case hd => exact rfl); (case hn => exact rfl))
             | ((with_reducible apply qs_ct); (case hc => exact xLK); (case he => exact xHB))
             | ((with_reducible apply qs_cf); (case hc => exact xLK); (case he => exact xHB))
             | ((with_reducible apply qs_cond); (case hc => exact xLK); (case hu => exact xUK); all_goals (intro hb))
             | ((with_reducible apply s_if); (case hg => exact rfl); (case hd => exact rfl); (case he => exact rfl); (case hu => exact xUK); all_goals (intro hb))
             | (apply post_2; (case h1 => first | exact r1_t rfl rfl | exact r1_a rfl | (simp only [go_sem, Nat.reduceBEq, Nat.reduceBNe, Nat.reduceLT, Nat.reduceGT, Int.reduceGT, Int.reduceMul, Int.reduceAdd, Int.reduceSub, Nat.reduceAdd, Nat.reduceMul, Nat.reduceLeDiff, Nat.reduceEqDiff, Nat.reduceSub, Int.reduceNeg, Int.reduceToNat, Int.reduceLT, Int.reduceLE, Int.reduceEq, Int.cast_ofNat_Int, decide_true, decide_false, Bool.not_true, Bool.not_false, Bool.and_self, reduceIte, reduceCtorEq]; with_reducible rfl)); (case h2 => exact r1_t rfl rfl); (case he => simp))
             | ((first | apply post_r | apply post_a); (case h1 => first | exact r1_t rfl rfl | (simp only [go_sem, Nat.reduceBEq, Nat.reduceBNe, Nat.reduceLT, Nat.reduceGT, Int.reduceGT, Int.reduceMul, Int.reduceAdd, Int.reduceSub, Nat.reduceAdd, Nat.reduceMul, Nat.reduceLeDiff, Nat.reduceEqDiff, Nat.reduceSub, Int.reduceNeg, Int.reduceToNat, Int.reduceLT, Int.reduceLE, Int.reduceEq, Int.cast_ofNat_Int, decide_true, decide_false, Bool.not_true, Bool.not_false, Bool.and_self, reduceIte, reduceCtorEq, hc, hk0, hkt, hix, hd1, hd2]; with_reducible rfl)); (case he => simp))
             | (refine hK _ ?_; clear hK)
             | (clear hK; refine hK _ ?_; clear hK)
             | (clear hK; clear hK; refine hK _ ?_; clear hK)
             | (clear hK; clear hK; clear hK; refine hK _ ?_; clear hK)
             | (clear hK; clear hK; clear hK; clear hK; refine hK _ ?_; clear hK)
             | fail
            all_goals (repeat (clear hK))
            all_goals first | done | rfl
      · have hc : decide ((j : Int) < (s.length : Int)) = false := by rw [hlen]; simp; omega
        have hjt : j = t.length := by omega
        rw [hjt, List.take_length] at hall hgn
        have hdg := digs_of (s := s) (by rw [hbody]; exact hall) (hbody.trans htc)
        have hix : s[0]? = some c := by rw [hs, htc]; rfl
        cases hz1 : decide ((c.toNat : Int) = 48)
        all_goals cases hz2 : decide (1 < (s.length : Int))
        all_goals rw [hz1, hz2] at hdg
        · skip
          have hE := par_p h0 hdg hmm
          rw [hbody] at hE
          rcases hgn with ⟨hn, ⟨rfl, hu⟩ | ⟨rfl, hu⟩⟩
          · rw [hu] at hE
            by_cases c1 : n = 9223372036854775808
            · have q1 : decide ((n : Int) = 9223372036854775808) = true := by simp; omega
              rw [if_neg (by omega)] at hE
              rw [hE] at hres
              subst hres
              have q2 := q1
              have q3 := q1
              have q4 := q1
              repeat' first
               | with_reducible first | refine thenQ_n ?_ | refine thenQ_r ?_ | refine thenQ_e ?_ | refine blockQ_n ?_ | refine blockQ_r ?_ | refine blockQ_e ?_ | refine tri_seq fun K hK => ?_ | refine tri_skip ?_ | refine tri_ret ?_ | refine tri_exit ?_ | refine tri_block ?_ | refine tri_region ?_ | refine sq_nil ?_
               | refine blockQ_o ?_ (by rfl)
               | ((with_reducible apply s_w); (case hw => exact xWT); first | ((with_reducible apply sg_q); (case hd => exact rfl); (case hn => exact rfl); (case he => (first | exact xE0 | ((with_reducible apply e_bi); (case hx => exact xDK); (case hy => exact xDK); (case hs => exact rfl); (case h => (simp only [binI, Int.reduceAdd, Int.reduceSub, Int.reduceMul, Int.reduceLT, Int.reduceLE, Int.reduceGT, Int.reduceEq, Int.reduceNeg, decide_true, decide_false, Bool.not_true, Bool.not_false, hc, hix, hz1, hz2, q1, q2, q3, q4]; with_reducible rfl))) | ((with_reducible apply e_ix); (case hx => exact xDK); (case hi => exact xDK); (case ht => exact xTY); (case hz => exact rfl); (case he => (simp only [hc, hix, hz1, hz2, q1, q2, q3, q4]; with_reducible rfl)); (case hc => exact xGS)) | ((with_reducible apply e_ln); (case hx => exact xDK); (case ht => exact xTY); (case hn => (first | (simp only [List.length_map, List.length_cons, List.length_nil, hc, hix, hz1, hz2, q1, q2, q3, q4]; with_reducible rfl) | rfl))) | ((with_reducible apply e_nt); (case hx => exact xDK); (case h => (first | (simp only [Bool.not_true, Bool.not_false, hc, hix, hz1, hz2, q1, q2, q3, q4]; with_reducible rfl) | rfl)))))) | (((with_reducible apply sg_nil); (case hn => exact rfl); (case hx => exact xDK); (case ht => exact xTY); intro β hβ)) | (((with_reducible apply sg_bx); (case hn => exact rfl); (case hv => exact xLT); (case hc => exact xGS); (case hk => exact rfl))) | (((with_reducible apply sg_al); (case hn => exact rfl); (case hz => exact xTY); (case hc => exact xGS); (case hk => exact rfl))) | (((with_reducible apply sg_st); (case hx => exact xLK); (case hv => exact xLT); (case hc => exact xGS); (case hb => exact rfl); (case ht => exact xTY); (case hz => exact rfl); (case hs => exact xGS))) | (((with_reducible apply sg_e); (case hc => (intros; simp)); (case hs => (simp only [go_sem, Nat.reduceBEq, Nat.reduceBNe, Nat.reduceLT, Nat.reduceGT, Int.reduceGT, Int.reduceMul, Int.reduceAdd, Int.reduceSub, Nat.reduceAdd, Nat.reduceMul, Nat.reduceLeDiff, Nat.reduceEqDiff, Nat.reduceSub, Int.reduceNeg, Int.reduceToNat, Int.reduceLT, Int.reduceLE, Int.reduceEq, Int.cast_ofNat_Int, decide_true, decide_false, Bool.not_true, Bool.not_false, Bool.and_self, reduceIte, reduceCtorEq, hc, hix, hz1, hz2, q1, q2, q3, q4]; with_reducible rfl)))))
               | ((with_reducible apply s_n); (case hw => exact xWF); (case hd => exact rfl); (case hn => exact rfl))
               | ((with_reducible apply qs_ct); (case hc => exact xLK); (case he => exact xHB))
               | ((with_reducible apply qs_cf); (case hc => exact xLK); (case he => exact xHB))
               | ((with_reducible apply qs_cond); (case hc => exact xLK); (case hu => exact xUK); all_goals (intro hb))
               | ((with_reducible apply s_if); (case hg => exact rfl); (case hd => exact rfl); (case he => exact rfl); (case hu => exact xUK); all_goals (intro hb))
               | (apply post_2; (case h1 => first | exact r1_t rfl rfl | exact r1_a rfl | (simp only [go_sem, Nat.reduceBEq, Nat.reduceBNe, Nat.reduceLT, Nat.reduceGT, Int.reduceGT, Int.reduceMul, Int.reduceAdd, Int.reduceSub, Nat.reduceAdd, Nat.reduceMul, Nat.reduceLeDiff, Nat.reduceEqDiff, Nat.reduceSub, Int.reduceNeg, Int.reduceToNat, Int.reduceLT, Int.reduceLE, Int.reduceEq, Int.cast_ofNat_Int, decide_true, decide_false, Bool.not_true, Bool.not_false, Bool.and_self, reduceIte, reduceCtorEq]; with_reducible rfl)); (case h2 => exact r1_t rfl rfl); (case he => simp))
               | ((first | apply post_r | apply post_a); (case h1 => first | exact r1_t rfl rfl | (simp only [go_sem, Nat.reduceBEq, Nat.reduceBNe, Nat.reduceLT, Nat.reduceGT, Int.reduceGT, Int.reduceMul, Int.reduceAdd, Int.reduceSub, Nat.reduceAdd, Nat.reduceMul, Nat.reduceLeDiff, Nat.reduceEqDiff, Nat.reduceSub, Int.reduceNeg, Int.reduceToNat, Int.reduceLT, Int.reduceLE, Int.reduceEq, Int.cast_ofNat_Int, decide_true, decide_false, Bool.not_true, Bool.not_false, Bool.and_self, reduceIte, reduceCtorEq, hc, hix, hz1, hz2, q1, q2, q3, q4]; with_reducible rfl)); (case he => simp))
               | (refine hK _ ?_; clear hK)
               | (clear hK; refine hK _ ?_; clear hK)
               | (clear hK; clear hK; refine hK _ ?_; clear hK)
               | (clear hK; clear hK; clear hK; refine hK _ ?_; clear hK)
               | (clear hK; clear hK; clear hK; clear hK; refine hK _ ?_; clear hK)
               | fail
              all_goals (repeat (clear hK))
              all_goals first | done | rfl
            · have q1 : decide ((n : Int) = 9223372036854775808) = false := by simp; omega
              rw [if_pos (by omega)] at hE
              have q2 : IntKind.i64.wrap (n : Int) = (n : Int) := by rw [IntWalk.i64_in _ (by omega)]
              have q3 : IntKind.i64.wrap (0 - (n : Int)) = -(n : Int) := by rw [IntWalk.i64_in _ (by omega)]; omega
              have q4 := q1
              rw [hE] at hres
              subst hres
              repeat' first
               | with_reducible first | refine thenQ_n ?_ | refine thenQ_r ?_ | refine thenQ_e ?_ | refine blockQ_n ?_ | refine blockQ_r ?_ | refine blockQ_e ?_ | refine tri_seq fun K hK => ?_ | refine tri_skip ?_ | refine tri_ret ?_ | refine tri_exit ?_ | refine tri_block ?_ | refine tri_region ?_ | refine sq_nil ?_
               | refine blockQ_o ?_ (by rfl)
               | ((with_reducible apply s_w); (case hw => exact xWT); first | ((with_reducible apply sg_q); (case hd => exact rfl); (case hn => exact rfl); (case he => (first | exact xE0 | ((with_reducible apply e_bi); (case hx => exact xDK); (case hy => exact xDK); (case hs => exact rfl); (case h => (simp only [binI, Int.reduceAdd, Int.reduceSub, Int.reduceMul, Int.reduceLT, Int.reduceLE, Int.reduceGT, Int.reduceEq, Int.reduceNeg, decide_true, decide_false, Bool.not_true, Bool.not_false, hc, hix, hz1, hz2, q1, q2, q3, q4]; with_reducible rfl))) | ((with_reducible apply e_ix); (case hx => exact xDK); (case hi => exact xDK); (case ht => exact xTY); (case hz => exact rfl); (case he => (simp only [hc, hix, hz1, hz2, q1, q2, q3, q4]; with_reducible rfl)); (case hc => exact xGS)) | ((with_reducible apply e_ln); (case hx => exact xDK); (case ht => exact xTY); (case hn => (first | (simp only [List.length_map, List.length_cons, List.length_nil, hc, hix, hz1, hz2, q1, q2, q3, q4]; with_reducible rfl) | rfl))) | ((with_reducible apply e_nt); (case hx => exact xDK); (case h => (first | (simp only [Bool.not_true, Bool.not_false, hc, hix, hz1, hz2, q1, q2, q3, q4]; with_reducible rfl) | rfl)))))) | (((with_reducible apply sg_nil); (case hn => exact rfl); (case hx => exact xDK); (case ht => exact xTY); intro β hβ)) | (((with_reducible apply sg_bx); (case hn => exact rfl); (case hv => exact xLT); (case hc => exact xGS); (case hk => exact rfl))) | (((with_reducible apply sg_al); (case hn => exact rfl); (case hz => exact xTY); (case hc => exact xGS); (case hk => exact rfl))) | (((with_reducible apply sg_st); (case hx => exact xLK); (case hv => exact xLT); (case hc => exact xGS); (case hb => exact rfl); (case ht => exact xTY); (case hz => exact rfl); (case hs => exact xGS))) | (((with_reducible apply sg_e); (case hc => (intros; simp)); (case hs => (simp only [go_sem, Nat.reduceBEq, Nat.reduceBNe, Nat.reduceLT, Nat.reduceGT, Int.reduceGT, Int.reduceMul, Int.reduceAdd, Int.reduceSub, Nat.reduceAdd, Nat.reduceMul, Nat.reduceLeDiff, Nat.reduceEqDiff, Nat.reduceSub, Int.reduceNeg, Int.reduceToNat, Int.reduceLT, Int.reduceLE, Int.reduceEq, Int.cast_ofNat_Int, decide_true, decide_false, Bool.not_true, Bool.not_false, Bool.and_self, reduceIte, reduceCtorEq, hc, hix, hz1, hz2, q1, q2, q3, q4]; with_reducible rfl)))))
               | ((with_reducible apply s_n); (case hw => exact xWF); (case hd => exact rfl); (case hn => exact rfl))
               | ((with_reducible apply qs_ct); (case hc => exact xLK); (case he => exact xHB))
               | ((with_reducible apply qs_cf); (case hc => exact xLK); (case he => exact xHB))
               | ((with_reducible apply qs_cond); (case hc => exact xLK); (case hu => exact xUK); all_goals (intro hb))
               | ((with_reducible apply s_if); (case hg => exact rfl); (case hd => exact rfl); (case he => exact rfl); (case hu => exact xUK); all_goals (intro hb))
               | (apply post_2; (case h1 => first | exact r1_t rfl rfl | exact r1_a rfl | (simp only [go_sem, Nat.reduceBEq, Nat.reduceBNe, Nat.reduceLT, Nat.reduceGT, Int.reduceGT, Int.reduceMul, Int.reduceAdd, Int.reduceSub, Nat.reduceAdd, Nat.reduceMul, Nat.reduceLeDiff, Nat.reduceEqDiff, Nat.reduceSub, Int.reduceNeg, Int.reduceToNat, Int.reduceLT, Int.reduceLE, Int.reduceEq, Int.cast_ofNat_Int, decide_true, decide_false, Bool.not_true, Bool.not_false, Bool.and_self, reduceIte, reduceCtorEq]; with_reducible rfl)); (case h2 => exact r1_t rfl rfl); (case he => simp))
               | ((first | apply post_r | apply post_a); (case h1 => first | exact r1_t rfl rfl | (simp only [go_sem, Nat.reduceBEq, Nat.reduceBNe, Nat.reduceLT, Nat.reduceGT, Int.reduceGT, Int.reduceMul, Int.reduceAdd, Int.reduceSub, Nat.reduceAdd, Nat.reduceMul, Nat.reduceLeDiff, Nat.reduceEqDiff, Nat.reduceSub, Int.reduceNeg, Int.reduceToNat, Int.reduceLT, Int.reduceLE, Int.reduceEq, Int.cast_ofNat_Int, decide_true, decide_false, Bool.not_true, Bool.not_false, Bool.and_self, reduceIte, reduceCtorEq, hc, hix, hz1, hz2, q1, q2, q3, q4]; with_reducible rfl)); (case he => simp))
               | (refine hK _ ?_; clear hK)
               | (clear hK; refine hK _ ?_; clear hK)
               | (clear hK; clear hK; refine hK _ ?_; clear hK)
               | (clear hK; clear hK; clear hK; refine hK _ ?_; clear hK)
               | (clear hK; clear hK; clear hK; clear hK; refine hK _ ?_; clear hK)
               | fail
              all_goals (repeat (clear hK))
              all_goals first | done | rfl
          · rw [if_neg (by omega)] at hE
            rw [hE] at hres
            subst hres
            have q1 := hz1
            have q2 := hz1
            have q3 := hz1
            have q4 := hz1
            repeat' first
             | with_reducible first | refine thenQ_n ?_ | refine thenQ_r ?_ | refine thenQ_e ?_ | refine blockQ_n ?_ | refine blockQ_r ?_ | refine blockQ_e ?_ | refine tri_seq fun K hK => ?_ | refine tri_skip ?_ | refine tri_ret ?_ | refine tri_exit ?_ | refine tri_block ?_ | refine tri_region ?_ | refine sq_nil ?_
             | refine blockQ_o ?_ (by rfl)
             | ((with_reducible apply s_w); (case hw => exact xWT); first | ((with_reducible apply sg_q); (case hd => exact rfl); (case hn => exact rfl); (case he => (first | exact xE0 | ((with_reducible apply e_bi); (case hx => exact xDK); (case hy => exact xDK); (case hs => exact rfl); (case h => (simp only [binI, Int.reduceAdd, Int.reduceSub, Int.reduceMul, Int.reduceLT, Int.reduceLE, Int.reduceGT, Int.reduceEq, Int.reduceNeg, decide_true, decide_false, Bool.not_true, Bool.not_false, hc, hix, hz1, hz2, q1, q2, q3, q4]; with_reducible rfl))) | ((with_reducible apply e_ix); (case hx => exact xDK); (case hi => exact xDK); (case ht => exact xTY); (case hz => exact rfl); (case he => (simp only [hc, hix, hz1, hz2, q1, q2, q3, q4]; with_reducible rfl)); (case hc => exact xGS)) | ((with_reducible apply e_ln); (case hx => exact xDK); (case ht => exact xTY); (case hn => (first | (simp only [List.length_map, List.length_cons, List.length_nil, hc, hix, hz1, hz2, q1, q2, q3, q4]; with_reducible rfl) | rfl))) | ((with_reducible apply e_nt); (case hx => exact xDK); (case h => (first | (simp only [Bool.not_true, Bool.not_false, hc, hix, hz1, hz2, q1, q2, q3, q4]; with_reducible rfl) | rfl)))))) | (((with_reducible apply sg_nil); (case hn => exact rfl); (case hx => exact xDK); (case ht => exact xTY); intro β hβ)) | (((with_reducible apply sg_bx); (case hn => exact rfl); (case hv => exact xLT); (case hc => exact xGS); (case hk => exact rfl))) | (((with_reducible apply sg_al); (case hn => exact rfl); (case hz => exact xTY); (case hc => exact xGS); (case hk => exact rfl))) | (((with_reducible apply sg_st); (case hx => exact xLK); (case hv => exact xLT); (case hc => exact xGS); (case hb => exact rfl); (case ht => exact xTY); (case hz => exact rfl); (case hs => exact xGS))) | (((with_reducible apply sg_e); (case hc => (intros; simp)); (case hs => (simp only [go_sem, Nat.reduceBEq, Nat.reduceBNe, Nat.reduceLT, Nat.reduceGT, Int.reduceGT, Int.reduceMul, Int.reduceAdd, Int.reduceSub, Nat.reduceAdd, Nat.reduceMul, Nat.reduceLeDiff, Nat.reduceEqDiff, Nat.reduceSub, Int.reduceNeg, Int.reduceToNat, Int.reduceLT, Int.reduceLE, Int.reduceEq, Int.cast_ofNat_Int, decide_true, decide_false, Bool.not_true, Bool.not_false, Bool.and_self, reduceIte, reduceCtorEq, hc, hix, hz1, hz2, q1, q2, q3, q4]; with_reducible rfl)))))
             | ((with_reducible apply s_n); (case hw => exact xWF); (case hd => exact rfl); (case hn => exact rfl))
             | ((with_reducible apply qs_ct); (case hc => exact xLK); (case he => exact xHB))
             | ((with_reducible apply qs_cf); (case hc => exact xLK); (case he => exact xHB))
             | ((with_reducible apply qs_cond); (case hc => exact xLK); (case hu => exact xUK); all_goals (intro hb))
             | ((with_reducible apply s_if); (case hg => exact rfl); (case hd => exact rfl); (case he => exact rfl); (case hu => exact xUK); all_goals (intro hb))
             | (apply post_2; (case h1 => first | exact r1_t rfl rfl | exact r1_a rfl | (simp only [go_sem, Nat.reduceBEq, Nat.reduceBNe, Nat.reduceLT, Nat.reduceGT, Int.reduceGT, Int.reduceMul, Int.reduceAdd, Int.reduceSub, Nat.reduceAdd, Nat.reduceMul, Nat.reduceLeDiff, Nat.reduceEqDiff, Nat.reduceSub, Int.reduceNeg, Int.reduceToNat, Int.reduceLT, Int.reduceLE, Int.reduceEq, Int.cast_ofNat_Int, decide_true, decide_false, Bool.not_true, Bool.not_false, Bool.and_self, reduceIte, reduceCtorEq]; with_reducible rfl)); (case h2 => exact r1_t rfl rfl); (case he => simp))
             | ((first | apply post_r | apply post_a); (case h1 => first | exact r1_t rfl rfl | (simp only [go_sem, Nat.reduceBEq, Nat.reduceBNe, Nat.reduceLT, Nat.reduceGT, Int.reduceGT, Int.reduceMul, Int.reduceAdd, Int.reduceSub, Nat.reduceAdd, Nat.reduceMul, Nat.reduceLeDiff, Nat.reduceEqDiff, Nat.reduceSub, Int.reduceNeg, Int.reduceToNat, Int.reduceLT, Int.reduceLE, Int.reduceEq, Int.cast_ofNat_Int, decide_true, decide_false, Bool.not_true, Bool.not_false, Bool.and_self, reduceIte, reduceCtorEq, hc, hix, hz1, hz2, q1, q2, q3, q4]; with_reducible rfl)); (case he => simp))
             | (refine hK _ ?_; clear hK)
             | (clear hK; refine hK _ ?_; clear hK)
             | (clear hK; clear hK; refine hK _ ?_; clear hK)
             | (clear hK; clear hK; clear hK; refine hK _ ?_; clear hK)
             | (clear hK; clear hK; clear hK; clear hK; refine hK _ ?_; clear hK)
             | fail
            all_goals (repeat (clear hK))
            all_goals first | done | rfl
        · skip
          have hE := par_p h0 hdg hmm
          rw [hbody] at hE
          rcases hgn with ⟨hn, ⟨rfl, hu⟩ | ⟨rfl, hu⟩⟩
          · rw [hu] at hE
            by_cases c1 : n = 9223372036854775808
            · have q1 : decide ((n : Int) = 9223372036854775808) = true := by simp; omega
              rw [if_neg (by omega)] at hE
              rw [hE] at hres
              subst hres
              have q2 := q1
              have q3 := q1
              have q4 := q1
              repeat' first
               | with_reducible first | refine thenQ_n ?_ | refine thenQ_r ?_ | refine thenQ_e ?_ | refine blockQ_n ?_ | refine blockQ_r ?_ | refine blockQ_e ?_ | refine tri_seq fun K hK => ?_ | refine tri_skip ?_ | refine tri_ret ?_ | refine tri_exit ?_ | refine tri_block ?_ | refine tri_region ?_ | refine sq_nil ?_
               | refine blockQ_o ?_ (by rfl)
               | ((with_reducible apply s_w); (case hw => exact xWT); first | ((with_reducible apply sg_q); (case hd => exact rfl); (case hn => exact rfl); (case he => (first | exact xE0 | ((with_reducible apply e_bi); (case hx => exact xDK); (case hy => exact xDK); (case hs => exact rfl); (case h => (simp only [binI, Int.reduceAdd, Int.reduceSub, Int.reduceMul, Int.reduceLT, Int.reduceLE, Int.reduceGT, Int.reduceEq, Int.reduceNeg, decide_true, decide_false, Bool.not_true, Bool.not_false, hc, hix, hz1, hz2, q1, q2, q3, q4]; with_reducible rfl))) | ((with_reducible apply e_ix); (case hx => exact xDK); (case hi => exact xDK); (case ht => exact xTY); (case hz => exact rfl); (case he => (simp only [hc, hix, hz1, hz2, q1, q2, q3, q4]; with_reducible rfl)); (case hc => exact xGS)) | ((with_reducible apply e_ln); (case hx => exact xDK); (case ht => exact xTY); (case hn => (first | (simp only [List.length_map, List.length_cons, List.length_nil, hc, hix, hz1, hz2, q1, q2, q3, q4]; with_reducible rfl) | rfl))) | ((with_reducible apply e_nt); (case hx => exact xDK); (case h => (first | (simp only [Bool.not_true, Bool.not_false, hc, hix, hz1, hz2, q1, q2, q3, q4]; with_reducible rfl) | rfl)))))) | (((with_reducible apply sg_nil); (case hn => exact rfl); (case hx => exact xDK); (case ht => exact xTY); intro β hβ)) | (((with_reducible apply sg_bx); (case hn => exact rfl); (case hv => exact xLT); (case hc => exact xGS); (case hk => exact rfl))) | (((with_reducible apply sg_al); (case hn => exact rfl); (case hz => exact xTY); (case hc => exact xGS); (case hk => exact rfl))) | (((with_reducible apply sg_st); (case hx => exact xLK); (case hv => exact xLT); (case hc => exact xGS); (case hb => exact rfl); (case ht => exact xTY); (case hz => exact rfl); (case hs => exact xGS))) | (((with_reducible apply sg_e); (case hc => (intros; simp)); (case hs => (simp only [go_sem, Nat.reduceBEq, Nat.reduceBNe, Nat.reduceLT, Nat.reduceGT, Int.reduceGT, Int.reduceMul, Int.reduceAdd, Int.reduceSub, Nat.reduceAdd, Nat.reduceMul, Nat.reduceLeDiff, Nat.reduceEqDiff, Nat.reduceSub, Int.reduceNeg, Int.reduceToNat, Int.reduceLT, Int.reduceLE, Int.reduceEq, Int.cast_ofNat_Int, decide_true, decide_false, Bool.not_true, Bool.not_false, Bool.and_self, reduceIte, reduceCtorEq, hc, hix, hz1, hz2, q1, q2, q3, q4]; with_reducible rfl)))))
               | ((with_reducible apply s_n); (case hw => exact xWF); (case hd => exact rfl); (case hn => exact rfl))
               | ((with_reducible apply qs_ct); (case hc => exact xLK); (case he => exact xHB))
               | ((with_reducible apply qs_cf); (case hc => exact xLK); (case he => exact xHB))
               | ((with_reducible apply qs_cond); (case hc => exact xLK); (case hu => exact xUK); all_goals (intro hb))
               | ((with_reducible apply s_if); (case hg => exact rfl); (case hd => exact rfl); (case he => exact rfl); (case hu => exact xUK); all_goals (intro hb))
               | (apply post_2; (case h1 => first | exact r1_t rfl rfl | exact r1_a rfl | (simp only [go_sem, Nat.reduceBEq, Nat.reduceBNe, Nat.reduceLT, Nat.reduceGT, Int.reduceGT, Int.reduceMul, Int.reduceAdd, Int.reduceSub, Nat.reduceAdd, Nat.reduceMul, Nat.reduceLeDiff, Nat.reduceEqDiff, Nat.reduceSub, Int.reduceNeg, Int.reduceToNat, Int.reduceLT, Int.reduceLE, Int.reduceEq, Int.cast_ofNat_Int, decide_true, decide_false, Bool.not_true, Bool.not_false, Bool.and_self, reduceIte, reduceCtorEq]; with_reducible rfl)); (case h2 => exact r1_t rfl rfl); (case he => simp))
               | ((first | apply post_r | apply post_a); (case h1 => first | exact r1_t rfl rfl | (simp only [go_sem, Nat.reduceBEq, Nat.reduceBNe, Nat.reduceLT, Nat.reduceGT, Int.reduceGT, Int.reduceMul, Int.reduceAdd, Int.reduceSub, Nat.reduceAdd, Nat.reduceMul, Nat.reduceLeDiff, Nat.reduceEqDiff, Nat.reduceSub, Int.reduceNeg, Int.reduceToNat, Int.reduceLT, Int.reduceLE, Int.reduceEq, Int.cast_ofNat_Int, decide_true, decide_false, Bool.not_true, Bool.not_false, Bool.and_self, reduceIte, reduceCtorEq, hc, hix, hz1, hz2, q1, q2, q3, q4]; with_reducible rfl)); (case he => simp))
               | (refine hK _ ?_; clear hK)
               | (clear hK; refine hK _ ?_; clear hK)
               | (clear hK; clear hK; refine hK _ ?_; clear hK)
               | (clear hK; clear hK; clear hK; refine hK _ ?_; clear hK)
               | (clear hK; clear hK; clear hK; clear hK; refine hK _ ?_; clear hK)
               | fail
              all_goals (repeat (clear hK))
              all_goals first | done | rfl
            · have q1 : decide ((n : Int) = 9223372036854775808) = false := by simp; omega
              rw [if_pos (by omega)] at hE
              have q2 : IntKind.i64.wrap (n : Int) = (n : Int) := by rw [IntWalk.i64_in _ (by omega)]
              have q3 : IntKind.i64.wrap (0 - (n : Int)) = -(n : Int) := by rw [IntWalk.i64_in _ (by omega)]; omega
              have q4 := q1
              rw [hE] at hres
              subst hres
              repeat' first
               | with_reducible first | refine thenQ_n ?_ | refine thenQ_r ?_ | refine thenQ_e ?_ | refine blockQ_n ?_ | refine blockQ_r ?_ | refine blockQ_e ?_ | refine tri_seq fun K hK => ?_ | refine tri_skip ?_ | refine tri_ret ?_ | refine tri_exit ?_ | refine tri_block ?_ | refine tri_region ?_ | refine sq_nil ?_
               | refine blockQ_o ?_ (by rfl)
               | ((with_reducible apply s_w); (case hw => exact xWT); first | ((with_reducible apply sg_q); (case hd => exact rfl); (case hn => exact rfl); (case he => (first | exact xE0 | ((with_reducible apply e_bi); (case hx => exact xDK); (case hy => exact xDK); (case hs => exact rfl); (case h => (simp only [binI, Int.reduceAdd, Int.reduceSub, Int.reduceMul, Int.reduceLT, Int.reduceLE, Int.reduceGT, Int.reduceEq, Int.reduceNeg, decide_true, decide_false, Bool.not_true, Bool.not_false, hc, hix, hz1, hz2, q1, q2, q3, q4]; with_reducible rfl))) | ((with_reducible apply e_ix); (case hx => exact xDK); (case hi => exact xDK); (case ht => exact xTY); (case hz => exact rfl); (case he => (simp only [hc, hix, hz1, hz2, q1, q2, q3, q4]; with_reducible rfl)); (case hc => exact xGS)) | ((with_reducible apply e_ln); (case hx => exact xDK); (case ht => exact xTY); (case hn => (first | (simp only [List.length_map, List.length_cons, List.length_nil, hc, hix, hz1, hz2, q1, q2, q3, q4]; with_reducible rfl) | rfl))) | ((with_reducible apply e_nt); (case hx => exact xDK); (case h => (first | (simp only [Bool.not_true, Bool.not_false, hc, hix, hz1, hz2, q1, q2, q3, q4]; with_reducible rfl) | rfl)))))) | (((with_reducible apply sg_nil); (case hn => exact rfl); (case hx => exact xDK); (case ht => exact xTY); intro β hβ)) | (((with_reducible apply sg_bx); (case hn => exact rfl); (case hv => exact xLT); (case hc => exact xGS); (case hk => exact rfl))) | (((with_reducible apply sg_al); (case hn => exact rfl); (case hz => exact xTY); (case hc => exact xGS); (case hk => exact rfl))) | (((with_reducible apply sg_st); (case hx => exact xLK); (case hv => exact xLT); (case hc => exact xGS); (case hb => exact rfl); (case ht => exact xTY); (case hz => exact rfl); (case hs => exact xGS))) | (((with_reducible apply sg_e); (case hc => (intros; simp)); (case hs => (simp only [go_sem, Nat.reduceBEq, Nat.reduceBNe, Nat.reduceLT, Nat.reduceGT, Int.reduceGT, Int.reduceMul, Int.reduceAdd, Int.reduceSub, Nat.reduceAdd, Nat.reduceMul, Nat.reduceLeDiff, Nat.reduceEqDiff, Nat.reduceSub, Int.reduceNeg, Int.reduceToNat, Int.reduceLT, Int.reduceLE, Int.reduceEq, Int.cast_ofNat_Int, decide_true, decide_false, Bool.not_true, Bool.not_false, Bool.and_self, reduceIte, reduceCtorEq, hc, hix, hz1, hz2, q1, q2, q3, q4]; with_reducible rfl)))))
               | ((with_reducible apply s_n); (case hw => exact xWF); (case hd => exact rfl); (case hn => exact rfl))
               | ((with_reducible apply qs_ct); (case hc => exact xLK); (case he => exact xHB))
               | ((with_reducible apply qs_cf); (case hc => exact xLK); (case he => exact xHB))
               | ((with_reducible apply qs_cond); (case hc => exact xLK); (case hu => exact xUK); all_goals (intro hb))
               | ((with_reducible apply s_if); (case hg => exact rfl); (case hd => exact rfl); (case he => exact rfl); (case hu => exact xUK); all_goals (intro hb))
               | (apply post_2; (case h1 => first | exact r1_t rfl rfl | exact r1_a rfl | (simp only [go_sem, Nat.reduceBEq, Nat.reduceBNe, Nat.reduceLT, Nat.reduceGT, Int.reduceGT, Int.reduceMul, Int.reduceAdd, Int.reduceSub, Nat.reduceAdd, Nat.reduceMul, Nat.reduceLeDiff, Nat.reduceEqDiff, Nat.reduceSub, Int.reduceNeg, Int.reduceToNat, Int.reduceLT, Int.reduceLE, Int.reduceEq, Int.cast_ofNat_Int, decide_true, decide_false, Bool.not_true, Bool.not_false, Bool.and_self, reduceIte, reduceCtorEq]; with_reducible rfl)); (case h2 => exact r1_t rfl rfl); (case he => simp))
               | ((first | apply post_r | apply post_a); (case h1 => first | exact r1_t rfl rfl | (simp only [go_sem, Nat.reduceBEq, Nat.reduceBNe, Nat.reduceLT, Nat.reduceGT, Int.reduceGT, Int.reduceMul, Int.reduceAdd, Int.reduceSub, Nat.reduceAdd, Nat.reduceMul, Nat.reduceLeDiff, Nat.reduceEqDiff, Nat.reduceSub, Int.reduceNeg, Int.reduceToNat, Int.reduceLT, Int.reduceLE, Int.reduceEq, Int.cast_ofNat_Int, decide_true, decide_false, Bool.not_true, Bool.not_false, Bool.and_self, reduceIte, reduceCtorEq, hc, hix, hz1, hz2, q1, q2, q3, q4]; with_reducible rfl)); (case he => simp))
               | (refine hK _ ?_; clear hK)
               | (clear hK; refine hK _ ?_; clear hK)
               | (clear hK; clear hK; refine hK _ ?_; clear hK)
               | (clear hK; clear hK; clear hK; refine hK _ ?_; clear hK)
               | (clear hK; clear hK; clear hK; clear hK; refine hK _ ?_; clear hK)
               | fail
              all_goals (repeat (clear hK))
              all_goals first | done | rfl
          · rw [if_neg (by omega)] at hE
            rw [hE] at hres
            subst hres
            have q1 := hz1
            have q2 := hz1
            have q3 := hz1
            have q4 := hz1
            repeat' first
             | with_reducible first | refine thenQ_n ?_ | refine thenQ_r ?_ | refine thenQ_e ?_ | refine blockQ_n ?_ | refine blockQ_r ?_ | refine blockQ_e ?_ | refine tri_seq fun K hK => ?_ | refine tri_skip ?_ | refine tri_ret ?_ | refine tri_exit ?_ | refine tri_block ?_ | refine tri_region ?_ | refine sq_nil ?_
             | refine blockQ_o ?_ (by rfl)
             | ((with_reducible apply s_w); (case hw => exact xWT); first | ((with_reducible apply sg_q); (case hd => exact rfl); (case hn => exact rfl); (case he => (first | exact xE0 | ((with_reducible apply e_bi); (case hx => exact xDK); (case hy => exact xDK); (case hs => exact rfl); (case h => (simp only [binI, Int.reduceAdd, Int.reduceSub, Int.reduceMul, Int.reduceLT, Int.reduceLE, Int.reduceGT, Int.reduceEq, Int.reduceNeg, decide_true, decide_false, Bool.not_true, Bool.not_false, hc, hix, hz1, hz2, q1, q2, q3, q4]; with_reducible rfl))) | ((with_reducible apply e_ix); (case hx => exact xDK); (case hi => exact xDK); (case ht => exact xTY); (case hz => exact rfl); (case he => (simp only [hc, hix, hz1, hz2, q1, q2, q3, q4]; with_reducible rfl)); (case hc => exact xGS)) | ((with_reducible apply e_ln); (case hx => exact xDK); (case ht => exact xTY); (case hn => (first | (simp only [List.length_map, List.length_cons, List.length_nil, hc, hix, hz1, hz2, q1, q2, q3, q4]; with_reducible rfl) | rfl))) | ((with_reducible apply e_nt); (case hx => exact xDK); (case h => (first | (simp only [Bool.not_true, Bool.not_false, hc, hix, hz1, hz2, q1, q2, q3, q4]; with_reducible rfl) | rfl)))))) | (((with_reducible apply sg_nil); (case hn => exact rfl); (case hx => exact xDK); (case ht => exact xTY); intro β hβ)) | (((with_reducible apply sg_bx); (case hn => exact rfl); (case hv => exact xLT); (case hc => exact xGS); (case hk => exact rfl))) | (((with_reducible apply sg_al); (case hn => exact rfl); (case hz => exact xTY); (case hc => exact xGS); (case hk => exact rfl))) | (((with_reducible apply sg_st); (case hx => exact xLK); (case hv => exact xLT); (case hc => exact xGS); (case hb => exact rfl); (case ht => exact xTY); (case hz => exact rfl); (case hs => exact xGS))) | (((with_reducible apply sg_e); (case hc => (intros; simp)); (case hs => (simp only [go_sem, Nat.reduceBEq, Nat.reduceBNe, Nat.reduceLT, Nat.reduceGT, Int.reduceGT, Int.reduceMul, Int.reduceAdd, Int.reduceSub, Nat.reduceAdd, Nat.reduceMul, Nat.reduceLeDiff, Nat.reduceEqDiff, Nat.reduceSub, Int.reduceNeg, Int.reduceToNat, Int.reduceLT, Int.reduceLE, Int.reduceEq, Int.cast_ofNat_Int, decide_true, decide_false, Bool.not_true, Bool.not_false, Bool.and_self, reduceIte, reduceCtorEq, hc, hix, hz1, hz2, q1, q2, q3, q4]; with_reducible rfl)))))
             | ((with_reducible apply s_n); (case hw => exact xWF); (case hd => exact rfl); (case hn => exact rfl))
             | ((with_reducible apply qs_ct); (case hc => exact xLK); (case he => exact xHB))
             | ((with_reducible apply qs_cf); (case hc => exact xLK); (case he => exact xHB))
             | ((with_reducible apply qs_cond); (case hc => exact xLK); (case hu => exact xUK); all_goals (intro hb))
             | ((with_reducible apply s_if); (case hg => exact rfl); (case hd => exact rfl); (case he => exact rfl); (case hu => exact xUK); all_goals (intro hb))
             | (apply post_2; (case h1 => first | exact r1_t rfl rfl | exact r1_a rfl | (simp only [go_sem, Nat.reduceBEq, Nat.reduceBNe, Nat.reduceLT, Nat.reduceGT, Int.reduceGT, Int.reduceMul, Int.reduceAdd, Int.reduceSub, Nat.reduceAdd, Nat.reduceMul, Nat.reduceLeDiff, Nat.reduceEqDiff, Nat.reduceSub, Int.reduceNeg, Int.reduceToNat, Int.reduceLT, Int.reduceLE, Int.reduceEq, Int.cast_ofNat_Int, decide_true, decide_false, Bool.not_true, Bool.not_false, Bool.and_self, reduceIte, reduceCtorEq]; with_reducible rfl)); (case h2 => exact r1_t rfl rfl); (case he => simp))
             | ((first | apply post_r | apply post_a); (case h1 => first | exact r1_t rfl rfl | (simp only [go_sem, Nat.reduceBEq, Nat.reduceBNe, Nat.reduceLT, Nat.reduceGT, Int.reduceGT, Int.reduceMul, Int.reduceAdd, Int.reduceSub, Nat.reduceAdd, Nat.reduceMul, Nat.reduceLeDiff, Nat.reduceEqDiff, Nat.reduceSub, Int.reduceNeg, Int.reduceToNat, Int.reduceLT, Int.reduceLE, Int.reduceEq, Int.cast_ofNat_Int, decide_true, decide_false, Bool.not_true, Bool.not_false, Bool.and_self, reduceIte, reduceCtorEq, hc, hix, hz1, hz2, q1, q2, q3, q4]; with_reducible rfl)); (case he => simp))
             | (refine hK _ ?_; clear hK)
             | (clear hK; refine hK _ ?_; clear hK)
             | (clear hK; clear hK; refine hK _ ?_; clear hK)
             | (clear hK; clear hK; clear hK; refine hK _ ?_; clear hK)
             | (clear hK; clear hK; clear hK; clear hK; refine hK _ ?_; clear hK)
             | fail
            all_goals (repeat (clear hK))
            all_goals first | done | rfl
        · skip
          have hE := par_p h0 hdg hmm
          rw [hbody] at hE
          rcases hgn with ⟨hn, ⟨rfl, hu⟩ | ⟨rfl, hu⟩⟩
          · rw [hu] at hE
            by_cases c1 : n = 9223372036854775808
            · have q1 : decide ((n : Int) = 9223372036854775808) = true := by simp; omega
              rw [if_neg (by omega)] at hE
              rw [hE] at hres
              subst hres
              have q2 := q1
              have q3 := q1
              have q4 := q1
              repeat' first
               | with_reducible first | refine thenQ_n ?_ | refine thenQ_r ?_ | refine thenQ_e ?_ | refine blockQ_n ?_ | refine blockQ_r ?_ | refine blockQ_e ?_ | refine tri_seq fun K hK => ?_ | refine tri_skip ?_ | refine tri_ret ?_ | refine tri_exit ?_ | refine tri_block ?_ | refine tri_region ?_ | refine sq_nil ?_
               | refine blockQ_o ?_ (by rfl)
               | ((with_reducible apply s_w); (case hw => exact xWT); first | ((with_reducible apply sg_q); (case hd => exact rfl); (case hn => exact rfl); (case he => (first | exact xE0 | ((with_reducible apply e_bi); (case hx => exact xDK); (case hy => exact xDK); (case hs => exact rfl); (case h => (simp only [binI, Int.reduceAdd, Int.reduceSub, Int.reduceMul, Int.reduceLT, Int.reduceLE, Int.reduceGT, Int.reduceEq, Int.reduceNeg, decide_true, decide_false, Bool.not_true, Bool.not_false, hc, hix, hz1, hz2, q1, q2, q3, q4]; with_reducible rfl))) | ((with_reducible apply e_ix); (case hx => exact xDK); (case hi => exact xDK); (case ht => exact xTY); (case hz => exact rfl); (case he => (simp only [hc, hix, hz1, hz2, q1, q2, q3, q4]; with_reducible rfl)); (case hc => exact xGS)) | ((with_reducible apply e_ln); (case hx => exact xDK); (case ht => exact xTY); (case hn => (first | (simp only [List.length_map, List.length_cons, List.length_nil, hc, hix, hz1, hz2, q1, q2, q3, q4]; with_reducible rfl) | rfl))) | ((with_reducible apply e_nt); (case hx => exact xDK); (case h => (first | (simp only [Bool.not_true, Bool.not_false, hc, hix, hz1, hz2, q1, q2, q3, q4]; with_reducible rfl) | rfl)))))) | (((with_reducible apply sg_nil); (case hn => exact rfl); (case hx => exact xDK); (case ht => exact xTY); intro β hβ)) | (((with_reducible apply sg_bx); (case hn => exact rfl); (case hv => exact xLT); (case hc => exact xGS); (case hk => exact rfl))) | (((with_reducible apply sg_al); (case hn => exact rfl); (case hz => exact xTY); (case hc => exact xGS); (case hk => exact rfl))) | (((with_reducible apply sg_st); (case hx => exact xLK); (case hv => exact xLT); (case hc => exact xGS); (case hb => exact rfl); (case ht => exact xTY); (case hz => exact rfl); (case hs => exact xGS))) | (((with_reducible apply sg_e); (case hc => (intros; simp)); (case hs => (simp only [go_sem, Nat.reduceBEq, Nat.reduceBNe, Nat.reduceLT, Nat.reduceGT, Int.reduceGT, Int.reduceMul, Int.reduceAdd, Int.reduceSub, Nat.reduceAdd, Nat.reduceMul, Nat.reduceLeDiff, Nat.reduceEqDiff, Nat.reduceSub, Int.reduceNeg, Int.reduceToNat, Int.reduceLT, Int.reduceLE, Int.reduceEq, Int.cast_ofNat_Int, decide_true, decide_false, Bool.not_true, Bool.not_false, Bool.and_self, reduceIte, reduceCtorEq, hc, hix, hz1, hz2, q1, q2, q3, q4]; with_reducible rfl)))))
               | ((with_reducible apply s_n); (case hw => exact xWF); (case hd => exact rfl); (case hn => exact rfl))
               | ((with_reducible apply qs_ct); (case hc => exact xLK); (case he => exact xHB))
               | ((with_reducible apply qs_cf); (case hc => exact xLK); (case he => exact xHB))
               | ((with_reducible apply qs_cond); (case hc => exact xLK); (case hu => exact xUK); all_goals (intro hb))
               | ((with_reducible apply s_if); (case hg => exact rfl); (case hd => exact rfl); (case he => exact rfl); (case hu => exact xUK); all_goals (intro hb))
               | (apply post_2; (case h1 => first | exact r1_t rfl rfl | exact r1_a rfl | (simp only [go_sem, Nat.reduceBEq, Nat.reduceBNe, Nat.reduceLT, Nat.reduceGT, Int.reduceGT, Int.reduceMul, Int.reduceAdd, Int.reduceSub, Nat.reduceAdd, Nat.reduceMul, Nat.reduceLeDiff, Nat.reduceEqDiff, Nat.reduceSub, Int.reduceNeg, Int.reduceToNat, Int.reduceLT, Int.reduceLE, Int.reduceEq, Int.cast_ofNat_Int, decide_true, decide_false, Bool.not_true, Bool.not_false, Bool.and_self, reduceIte, reduceCtorEq]; with_reducible rfl)); (case h2 => exact r1_t rfl rfl); (case he => simp))
               | ((first | apply post_r | apply post_a); (case h1 => first | exact r1_t rfl rfl | (simp only [go_sem, Nat.reduceBEq, Nat.reduceBNe, Nat.reduceLT, Nat.reduceGT, Int.reduceGT, Int.reduceMul, Int.reduceAdd, Int.reduceSub, Nat.reduceAdd, Nat.reduceMul, Nat.reduceLeDiff, Nat.reduceEqDiff, Nat.reduceSub, Int.reduceNeg, Int.reduceToNat, Int.reduceLT, Int.reduceLE, Int.reduceEq, Int.cast_ofNat_Int, decide_true, decide_false, Bool.not_true, Bool.not_false, Bool.and_self, reduceIte, reduceCtorEq, hc, hix, hz1, hz2, q1, q2, q3, q4]; with_reducible rfl)); (case he => simp))
               | (refine hK _ ?_; clear hK)
               | (clear hK; refine hK _ ?_; clear hK)
               | (clear hK; clear hK; refine hK _ ?_; clear hK)
               | (clear hK; clear hK; clear hK; refine hK _ ?_; clear hK)
               | (clear hK; clear hK; clear hK; clear hK; refine hK _ ?_; clear hK)
               | fail
              all_goals (repeat (clear hK))
              all_goals first | done | rfl
            · have q1 : decide ((n : Int) = 9223372036854775808) = false := by simp; omega
              rw [if_pos (by omega)] at hE
              have q2 : IntKind.i64.wrap (n : Int) = (n : Int) := by rw [IntWalk.i64_in _ (by omega)]
              have q3 : IntKind.i64.wrap (0 - (n : Int)) = -(n : Int) := by rw [IntWalk.i64_in _ (by omega)]; omega
              have q4 := q1
              rw [hE] at hres
              subst hres
              repeat' first
               | with_reducible first | refine thenQ_n ?_ | refine thenQ_r ?_ | refine thenQ_e ?_ | refine blockQ_n ?_ | refine blockQ_r ?_ | refine blockQ_e ?_ | refine tri_seq fun K hK => ?_ | refine tri_skip ?_ | refine tri_ret ?_ | refine tri_exit ?_ | refine tri_block ?_ | refine tri_region ?_ | refine sq_nil ?_
               | refine blockQ_o ?_ (by rfl)
               | ((with_reducible apply s_w); (case hw => exact xWT); first | ((with_reducible apply sg_q); (case hd => exact rfl); (case hn => exact rfl); (case he => (first | exact xE0 | ((with_reducible apply e_bi); (case hx => exact xDK); (case hy => exact xDK); (case hs => exact rfl); (case h => (simp only [binI, Int.reduceAdd, Int.reduceSub, Int.reduceMul, Int.reduceLT, Int.reduceLE, Int.reduceGT, Int.reduceEq, Int.reduceNeg, decide_true, decide_false, Bool.not_true, Bool.not_false, hc, hix, hz1, hz2, q1, q2, q3, q4]; with_reducible rfl))) | ((with_reducible apply e_ix); (case hx => exact xDK); (case hi => exact xDK); (case ht => exact xTY); (case hz => exact rfl); (case he => (simp only [hc, hix, hz1, hz2, q1, q2, q3, q4]; with_reducible rfl)); (case hc => exact xGS)) | ((with_reducible apply e_ln); (case hx => exact xDK); (case ht => exact xTY); (case hn => (first | (simp only [List.length_map, List.length_cons, List.length_nil, hc, hix, hz1, hz2, q1, q2, q3, q4]; with_reducible rfl) | rfl))) | ((with_reducible apply e_nt); (case hx => exact xDK); (case h => (first | (simp only [Bool.not_true, Bool.not_false, hc, hix, hz1, hz2, q1, q2, q3, q4]; with_reducible rfl) | rfl)))))) | (((with_reducible apply sg_nil); (case hn => exact rfl); (case hx => exact xDK); (case ht => exact xTY); intro β hβ)) | (((with_reducible apply sg_bx); (case hn => exact rfl); (case hv => exact xLT); (case hc => exact xGS); (case hk => exact rfl))) | (((with_reducible apply sg_al); (case hn => exact rfl); (case hz => exact xTY); (case hc => exact xGS); (case hk => exact rfl))) | (((with_reducible apply sg_st); (case hx => exact xLK); (case hv => exact xLT); (case hc => exact xGS); (case hb => exact rfl); (case ht => exact xTY); (case hz => exact rfl); (case hs => exact xGS))) | (((with_reducible apply sg_e); (case hc => (intros; simp)); (case hs => (simp only [go_sem, Nat.reduceBEq, Nat.reduceBNe, Nat.reduceLT, Nat.reduceGT, Int.reduceGT, Int.reduceMul, Int.reduceAdd, Int.reduceSub, Nat.reduceAdd, Nat.reduceMul, Nat.reduceLeDiff, Nat.reduceEqDiff, Nat.reduceSub, Int.reduceNeg, Int.reduceToNat, Int.reduceLT, Int.reduceLE, Int.reduceEq, Int.cast_ofNat_Int, decide_true, decide_false, Bool.not_true, Bool.not_false, Bool.and_self, reduceIte, reduceCtorEq, hc, hix, hz1, hz2, q1, q2, q3, q4]; with_reducible rfl)))))
               | ((with_reducible apply s_n); (case hw => exact xWF); (case hd => exact rfl); (case hn => exact rfl))
               | ((with_reducible apply qs_ct); (case hc => exact xLK); (case he => exact xHB))
               | ((with_reducible apply qs_cf); (case hc => exact xLK); (case he => exact xHB))
               | ((with_reducible apply qs_cond); (case hc => exact xLK); (case hu => exact xUK); all_goals (intro hb))
               | ((with_reducible apply s_if); (case hg => exact rfl); (case hd => exact rfl); (case he => exact rfl); (case hu => exact xUK); all_goals (intro hb))
               | (apply post_2; (case h1 => first | exact r1_t rfl rfl | exact r1_a rfl | (simp only [go_sem, Nat.reduceBEq, Nat.reduceBNe, Nat.reduceLT, Nat.reduceGT, Int.reduceGT, Int.reduceMul, Int.reduceAdd, Int.reduceSub, Nat.reduceAdd, Nat.reduceMul, Nat.reduceLeDiff, Nat.reduceEqDiff, Nat.reduceSub, Int.reduceNeg, Int.reduceToNat, Int.reduceLT, Int.reduceLE, Int.reduceEq, Int.cast_ofNat_Int, decide_true, decide_false, Bool.not_true, Bool.not_false, Bool.and_self, reduceIte, reduceCtorEq]; with_reducible rfl)); (case h2 => exact r1_t rfl rfl); (case he => simp))
               | ((first | apply post_r | apply post_a); (case h1 => first | exact r1_t rfl rfl | (simp only [go_sem, Nat.reduceBEq, Nat.reduceBNe, Nat.reduceLT, Nat.reduceGT, Int.reduceGT, Int.reduceMul, Int.reduceAdd, Int.reduceSub, Nat.reduceAdd, Nat.reduceMul, Nat.reduceLeDiff, Nat.reduceEqDiff, Nat.reduceSub, Int.reduceNeg, Int.reduceToNat, Int.reduceLT, Int.reduceLE, Int.reduceEq, Int.cast_ofNat_Int, decide_true, decide_false, Bool.not_true, Bool.not_false, Bool.and_self, reduceIte, reduceCtorEq, hc, hix, hz1, hz2, q1, q2, q3, q4]; with_reducible rfl)); (case he => simp))
               | (refine hK _ ?_; clear hK)
               | (clear hK; refine hK _ ?_; clear hK)
               | (clear hK; clear hK; refine hK _ ?_; clear hK)
               | (clear hK; clear hK; clear hK; refine hK _ ?_; clear hK)
               | (clear hK; clear hK; clear hK; clear hK; refine hK _ ?_; clear hK)
               | fail
              all_goals (repeat (clear hK))
              all_goals first | done | rfl
          · rw [if_neg (by omega)] at hE
            rw [hE] at hres
            subst hres
            have q1 := hz1
            have q2 := hz1
            have q3 := hz1
            have q4 := hz1
            repeat' first
             | with_reducible first | refine thenQ_n ?_ | refine thenQ_r ?_ | refine thenQ_e ?_ | refine blockQ_n ?_ | refine blockQ_r ?_ | refine blockQ_e ?_ | refine tri_seq fun K hK => ?_ | refine tri_skip ?_ | refine tri_ret ?_ | refine tri_exit ?_ | refine tri_block ?_ | refine tri_region ?_ | refine sq_nil ?_
             | refine blockQ_o ?_ (by rfl)
             | ((with_reducible apply s_w); (case hw => exact xWT); first | ((with_reducible apply sg_q); (case hd => exact rfl); (case hn => exact rfl); (case he => (first | exact xE0 | ((with_reducible apply e_bi); (case hx => exact xDK); (case hy => exact xDK); (case hs => exact rfl); (case h => (simp only [binI, Int.reduceAdd, Int.reduceSub, Int.reduceMul, Int.reduceLT, Int.reduceLE, Int.reduceGT, Int.reduceEq, Int.reduceNeg, decide_true, decide_false, Bool.not_true, Bool.not_false, hc, hix, hz1, hz2, q1, q2, q3, q4]; with_reducible rfl))) | ((with_reducible apply e_ix); (case hx => exact xDK); (case hi => exact xDK); (case ht => exact xTY); (case hz => exact rfl); (case he => (simp only [hc, hix, hz1, hz2, q1, q2, q3, q4]; with_reducible rfl)); (case hc => exact xGS)) | ((with_reducible apply e_ln); (case hx => exact xDK); (case ht => exact xTY); (case hn => (first | (simp only [List.length_map, List.length_cons, List.length_nil, hc, hix, hz1, hz2, q1, q2, q3, q4]; with_reducible rfl) | rfl))) | ((with_reducible apply e_nt); (case hx => exact xDK); (case h => (first | (simp only [Bool.not_true, Bool.not_false, hc, hix, hz1, hz2, q1, q2, q3, q4]; with_reducible rfl) | rfl)))))) | (((with_reducible apply sg_nil); (case hn => exact rfl); (case hx => exact xDK); (case ht => exact xTY); intro β hβ)) | (((with_reducible apply sg_bx); (case hn => exact rfl); (case hv => exact xLT); (case hc => exact xGS); (case hk => exact rfl))) | (((with_reducible apply sg_al); (case hn => exact rfl); (case hz => exact xTY); (case hc => exact xGS); (case hk => exact rfl))) | (((with_reducible apply sg_st); (case hx => exact xLK); (case hv => exact xLT); (case hc => exact xGS); (case hb => exact rfl); (case ht => exact xTY); (case hz => exact rfl); (case hs => exact xGS))) | (((with_reducible apply sg_e); (case hc => (intros; simp)); (case hs => (simp only [go_sem, Nat.reduceBEq, Nat.reduceBNe, Nat.reduceLT, Nat.reduceGT, Int.reduceGT, Int.reduceMul, Int.reduceAdd, Int.reduceSub, Nat.reduceAdd, Nat.reduceMul, Nat.reduceLeDiff, Nat.reduceEqDiff, Nat.reduceSub, Int.reduceNeg, Int.reduceToNat, Int.reduceLT, Int.reduceLE, Int.reduceEq, Int.cast_ofNat_Int, decide_true, decide_false, Bool.not_true, Bool.not_false, Bool.and_self, reduceIte, reduceCtorEq, hc, hix, hz1, hz2, q1, q2, q3, q4]; with_reducible rfl)))))
             | ((with_reducible apply s_n); (case hw => exact xWF); (case hd => exact rfl); (case hn => exact rfl))
             | ((with_reducible apply qs_ct); (case hc => exact xLK); (case he => exact xHB))
             | ((with_reducible apply qs_cf); (case hc => exact xLK); (case he => exact xHB))
             | ((with_reducible apply qs_cond); (case hc => exact xLK); (case hu => exact xUK); all_goals (intro hb))
             | ((with_reducible apply s_if); (case hg => exact rfl); (case hd => exact rfl); (case he => exact rfl); (case hu => exact xUK); all_goals (intro hb))
             | (apply post_2; (case h1 => first | exact r1_t rfl rfl | exact r1_a rfl | (simp only [go_sem, Nat.reduceBEq, Nat.reduceBNe, Nat.reduceLT, Nat.reduceGT, Int.reduceGT, Int.reduceMul, Int.reduceAdd, Int.reduceSub, Nat.reduceAdd, Nat.reduceMul, Nat.reduceLeDiff, Nat.reduceEqDiff, Nat.reduceSub, Int.reduceNeg, Int.reduceToNat, Int.reduceLT, Int.reduceLE, Int.reduceEq, Int.cast_ofNat_Int, decide_true, decide_false, Bool.not_true, Bool.not_false, Bool.and_self, reduceIte, reduceCtorEq]; with_reducible rfl)); (case h2 => exact r1_t rfl rfl); (case he => simp))
             | ((first | apply post_r | apply post_a); (case h1 => first | exact r1_t rfl rfl | (simp only [go_sem, Nat.reduceBEq, Nat.reduceBNe, Nat.reduceLT, Nat.reduceGT, Int.reduceGT, Int.reduceMul, Int.reduceAdd, Int.reduceSub, Nat.reduceAdd, Nat.reduceMul, Nat.reduceLeDiff, Nat.reduceEqDiff, Nat.reduceSub, Int.reduceNeg, Int.reduceToNat, Int.reduceLT, Int.reduceLE, Int.reduceEq, Int.cast_ofNat_Int, decide_true, decide_false, Bool.not_true, Bool.not_false, Bool.and_self, reduceIte, reduceCtorEq, hc, hix, hz1, hz2, q1, q2, q3, q4]; with_reducible rfl)); (case he => simp))
             | (refine hK _ ?_; clear hK)
             | (clear hK; refine hK _ ?_; clear hK)
             | (clear hK; clear hK; refine hK _ ?_; clear hK)
             | (clear hK; clear hK; clear hK; refine hK _ ?_; clear hK)
             | (clear hK; clear hK; clear hK; clear hK; refine hK _ ?_; clear hK)
             | fail
            all_goals (repeat (clear hK))
            all_goals first | done | rfl
        · skip
          have hE := par_no h0 hdg
          rw [hE] at hres
          subst hres
          have q1 := hz1
          have q2 := hz1
          have q3 := hz1
          have q4 := hz1
          repeat' first
           | with_reducible first | refine thenQ_n ?_ | refine thenQ_r ?_ | refine thenQ_e ?_ | refine blockQ_n ?_ | refine blockQ_r ?_ | refine blockQ_e ?_ | refine tri_seq fun K hK => ?_ | refine tri_skip ?_ | refine tri_ret ?_ | refine tri_exit ?_ | refine tri_block ?_ | refine tri_region ?_ | refine sq_nil ?_
           | refine blockQ_o ?_ (by rfl)
           | ((with_reducible apply s_w); (case hw => exact xWT); first | ((with_reducible apply sg_q); (case hd => exact rfl); (case hn => exact rfl); (case he => (first | exact xE0 | ((with_reducible apply e_bi); (case hx => exact xDK); (case hy => exact xDK); (case hs => exact rfl); (case h => (simp only [binI, Int.reduceAdd, Int.reduceSub, Int.reduceMul, Int.reduceLT, Int.reduceLE, Int.reduceGT, Int.reduceEq, Int.reduceNeg, decide_true, decide_false, Bool.not_true, Bool.not_false, hc, hix, hz1, hz2, q1, q2, q3, q4]; with_reducible rfl))) | ((with_reducible apply e_ix); (case hx => exact xDK); (case hi => exact xDK); (case ht => exact xTY); (case hz => exact rfl); (case he => (simp only [hc, hix, hz1, hz2, q1, q2, q3, q4]; with_reducible rfl)); (case hc => exact xGS)) | ((with_reducible apply e_ln); (case hx => exact xDK); (case ht => exact xTY); (case hn => (first | (simp only [List.length_map, List.length_cons, List.length_nil, hc, hix, hz1, hz2, q1, q2, q3, q4]; with_reducible rfl) | rfl))) | ((with_reducible apply e_nt); (case hx => exact xDK); (case h => (first | (simp only [Bool.not_true, Bool.not_false, hc, hix, hz1, hz2, q1, q2, q3, q4]; with_reducible rfl) | rfl)))))) | (((with_reducible apply sg_nil); (case hn => exact rfl); (case hx => exact xDK); (case ht => exact xTY); intro β hβ)) | (((with_reducible apply sg_bx); (case hn => exact rfl); (case hv => exact xLT); (case hc => exact xGS); (case hk => exact rfl))) | (((with_reducible apply sg_al); (case hn => exact rfl); (case hz => exact xTY); (case hc => exact xGS); (case hk => exact rfl))) | (((with_reducible apply sg_st); (case hx => exact xLK); (case hv => exact xLT); (case hc => exact xGS); (case hb => exact rfl); (case ht => exact xTY); (case hz => exact rfl); (case hs => exact xGS))) | (((with_reducible apply sg_e); (case hc => (intros; simp)); (case hs => (simp only [go_sem, Nat.reduceBEq, Nat.reduceBNe, Nat.reduceLT, Nat.reduceGT, Int.reduceGT, Int.reduceMul, Int.reduceAdd, Int.reduceSub, Nat.reduceAdd, Nat.reduceMul, Nat.reduceLeDiff, Nat.reduceEqDiff, Nat.reduceSub, Int.reduceNeg, Int.reduceToNat, Int.reduceLT, Int.reduceLE, Int.reduceEq, Int.cast_ofNat_Int, decide_true, decide_false, Bool.not_true, Bool.not_false, Bool.and_self, reduceIte, reduceCtorEq, hc, hix, hz1, hz2, q1, q2, q3, q4]; with_reducible rfl)))))
           | ((with_reducible apply s_n); (case hw => exact xWF); (case hd => exact rfl); (case hn => exact rfl))
           | ((with_reducible apply qs_ct); (case hc => exact xLK); (case he => exact xHB))
           | ((with_reducible apply qs_cf); (case hc => exact xLK); (case he => exact xHB))
           | ((with_reducible apply qs_cond); (case hc => exact xLK); (case hu => exact xUK); all_goals (intro hb))
           | ((with_reducible apply s_if); (case hg => exact rfl); (case hd => exact rfl); (case he => exact rfl); (case hu => exact xUK); all_goals (intro hb))
           | (apply post_2; (case h1 => first | exact r1_t rfl rfl | exact r1_a rfl | (simp only [go_sem, Nat.reduceBEq, Nat.reduceBNe, Nat.reduceLT, Nat.reduceGT, Int.reduceGT, Int.reduceMul, Int.reduceAdd, Int.reduceSub, Nat.reduceAdd, Nat.reduceMul, Nat.reduceLeDiff, Nat.reduceEqDiff, Nat.reduceSub, Int.reduceNeg, Int.reduceToNat, Int.reduceLT, Int.reduceLE, Int.reduceEq, Int.cast_ofNat_Int, decide_true, decide_false, Bool.not_true, Bool.not_false, Bool.and_self, reduceIte, reduceCtorEq]; with_reducible rfl)); (case h2 => exact r1_t rfl rfl); (case he => simp))
           | ((first | apply post_r | apply post_a); (case h1 => first | exact r1_t rfl rfl | (simp only [go_sem, Nat.reduceBEq, Nat.reduceBNe, Nat.reduceLT, Nat.reduceGT, Int.reduceGT, Int.reduceMul, Int.reduceAdd, Int.reduceSub, Nat.reduceAdd, Nat.reduceMul, Nat.reduceLeDiff, Nat.reduceEqDiff, Nat.reduceSub, Int.reduceNeg, Int.reduceToNat, Int.reduceLT, Int.reduceLE, Int.reduceEq, Int.cast_ofNat_Int, decide_true, decide_false, Bool.not_true, Bool.not_false, Bool.and_self, reduceIte, reduceCtorEq, hc, hix, hz1, hz2, q1, q2, q3, q4]; with_reducible rfl)); (case he => simp))
           | (refine hK _ ?_; clear hK)
           | (clear hK; refine hK _ ?_; clear hK)
           | (clear hK; clear hK; refine hK _ ?_; clear hK)
           | (clear hK; clear hK; clear hK; refine hK _ ?_; clear hK)
           | (clear hK; clear hK; clear hK; clear hK; refine hK _ ?_; clear hK)
           | fail
          all_goals (repeat (clear hK))
          all_goals first | done | rfl
  case true =>
    have hl2 : decide ((s.length : Int) = 0) = false := decide_eq_false (by have := of_decide_eq_true hl1; omega)
    have hl3 : decide ((s.length : Int) = 1) = false := decide_eq_false (by have := of_decide_eq_true hl1; omega)
    cases hsc : s with
    | nil => rw [hsc] at hl1; simp at hl1
    | cons c r =>
      rw [← hsc]
      have hx0 : s[0]? = some c := by rw [hsc]; rfl
      cases hm0 : decide ((c.toNat : Int) = 45)
      case false =>
        obtain ⟨t, ht⟩ : ∃ t, t = s := ⟨_, rfl⟩
        have htc : t = c :: r := ht.trans hsc
        have hs := ht.symm
        have hlen : s.length = t.length := by rw [ht]
        have hbody : bodyF s = t := (body_p hmm).trans ht.symm
        repeat' first
         | with_reducible first | refine thenQ_n ?_ | refine thenQ_r ?_ | refine thenQ_e ?_ | refine blockQ_n ?_ | refine blockQ_r ?_ | refine blockQ_e ?_ | refine tri_seq fun K hK => ?_ | refine tri_skip ?_ | refine tri_ret ?_ | refine tri_exit ?_ | refine tri_block ?_ | refine tri_region ?_ | refine sq_nil ?_
         | refine blockQ_o ?_ (by rfl)
         | ((with_reducible apply s_w); (case hw => exact xWT); first | ((with_reducible apply sg_q); (case hd => exact rfl); (case hn => exact rfl); (case he => (first | exact xE0 | ((with_reducible apply e_bi); (case hx => exact xDK); (case hy => exact xDK); (case hs => exact rfl); (case h => (simp only [binI, Int.reduceAdd, Int.reduceSub, Int.reduceMul, Int.reduceLT, Int.reduceLE, Int.reduceGT, Int.reduceEq, Int.reduceNeg, decide_true, decide_false, Bool.not_true, Bool.not_false, hd1, hl1, hl2, hl3, hx0, hm0]; with_reducible rfl))) | ((with_reducible apply e_ix); (case hx => exact xDK); (case hi => exact xDK); (case ht => exact xTY); (case hz => exact rfl); (case he => (simp only [hd1, hl1, hl2, hl3, hx0, hm0]; with_reducible rfl)); (case hc => exact xGS)) | ((with_reducible apply e_ln); (case hx => exact xDK); (case ht => exact xTY); (case hn => (first | (simp only [List.length_map, List.length_cons, List.length_nil, hd1, hl1, hl2, hl3, hx0, hm0]; with_reducible rfl) | rfl))) | ((with_reducible apply e_nt); (case hx => exact xDK); (case h => (first | (simp only [Bool.not_true, Bool.not_false, hd1, hl1, hl2, hl3, hx0, hm0]; with_reducible rfl) | rfl)))))) | (((with_reducible apply sg_k); (case ha => exact xDA); (case hfc => ((try simp only [hd1, hl1, hl2, hl3, hx0, hm0]); first | exact k1 )); (case hr => exact xRT))) | ((with_reducible apply sg_kv); (case hv => exact rfl); (case ha => exact xDA); (case hl => exact xLs); (case hfc => ((try simp only [hd1, hl1, hl2, hl3, hx0, hm0]); first | exact k1 )); (case hr => exact xRT)) | (((with_reducible apply sg_kf); (case hv => exact rfl); (case hc => (first | exact rfl | (simp only [go_sem]; rfl))); (case ha => exact xDA); (case hl => exact xLs); (case hfc => ((try simp only [hd1, hl1, hl2, hl3, hx0, hm0]); first | exact k1 )); (case hr => exact xRT))) | (((with_reducible apply sg_nil); (case hn => exact rfl); (case hx => exact xDK); (case ht => exact xTY); intro β hβ)) | (((with_reducible apply sg_bx); (case hn => exact rfl); (case hv => exact xLT); (case hc => exact xGS); (case hk => exact rfl))) | (((with_reducible apply sg_al); (case hn => exact rfl); (case hz => exact xTY); (case hc => exact xGS); (case hk => exact rfl))) | (((with_reducible apply sg_st); (case hx => exact xLK); (case hv => exact xLT); (case hc => exact xGS); (case hb => exact rfl); (case ht => exact xTY); (case hz => exact rfl); (case hs => exact xGS))) | (((with_reducible apply sg_e); (case hc => (intros; simp)); (case hs => (simp only [go_sem, Nat.reduceBEq, Nat.reduceBNe, Nat.reduceLT, Nat.reduceGT, Int.reduceGT, Int.reduceMul, Int.reduceAdd, Int.reduceSub, Nat.reduceAdd, Nat.reduceMul, Nat.reduceLeDiff, Nat.reduceEqDiff, Nat.reduceSub, Int.reduceNeg, Int.reduceToNat, Int.reduceLT, Int.reduceLE, Int.reduceEq, Int.cast_ofNat_Int, decide_true, decide_false, Bool.not_true, Bool.not_false, Bool.and_self, reduceIte, reduceCtorEq, hd1, hl1, hl2, hl3, hx0, hm0]; with_reducible rfl)))))
         | ((with_reducible apply s_n); (case hw => exact xWF); (case hd => exact rfl); (case hn => exact rfl))
         | ((with_reducible apply qs_ct); (case hc => exact xLK); (case he => exact xHB))
         | ((with_reducible apply qs_cf); (case hc => exact xLK); (case he => exact xHB))
         | ((with_reducible apply qs_cond); (case hc => exact xLK); (case hu => exact xUK); all_goals (intro hb))
         | ((with_reducible apply s_if); (case hg => exact rfl); (case hd => exact rfl); (case he => exact rfl); (case hu => exact xUK); all_goals (intro hb))
         | (apply post_2; (case h1 => first | exact r1_t rfl rfl | exact r1_a rfl | (simp only [go_sem, Nat.reduceBEq, Nat.reduceBNe, Nat.reduceLT, Nat.reduceGT, Int.reduceGT, Int.reduceMul, Int.reduceAdd, Int.reduceSub, Nat.reduceAdd, Nat.reduceMul, Nat.reduceLeDiff, Nat.reduceEqDiff, Nat.reduceSub, Int.reduceNeg, Int.reduceToNat, Int.reduceLT, Int.reduceLE, Int.reduceEq, Int.cast_ofNat_Int, decide_true, decide_false, Bool.not_true, Bool.not_false, Bool.and_self, reduceIte, reduceCtorEq]; with_reducible rfl)); (case h2 => exact r1_t rfl rfl); (case he => simp))
         | ((first | apply post_r | apply post_a); (case h1 => first | exact r1_t rfl rfl | (simp only [go_sem, Nat.reduceBEq, Nat.reduceBNe, Nat.reduceLT, Nat.reduceGT, Int.reduceGT, Int.reduceMul, Int.reduceAdd, Int.reduceSub, Nat.reduceAdd, Nat.reduceMul, Nat.reduceLeDiff, Nat.reduceEqDiff, Nat.reduceSub, Int.reduceNeg, Int.reduceToNat, Int.reduceLT, Int.reduceLE, Int.reduceEq, Int.cast_ofNat_Int, decide_true, decide_false, Bool.not_true, Bool.not_false, Bool.and_self, reduceIte, reduceCtorEq, hd1, hl1, hl2, hl3, hx0, hm0]; with_reducible rfl)); (case he => simp))
         | (refine hK _ ?_; clear hK)
         | (clear hK; refine hK _ ?_; clear hK)
         | (clear hK; clear hK; refine hK _ ?_; clear hK)
         | (clear hK; clear hK; clear hK; refine hK _ ?_; clear hK)
         | (clear hK; clear hK; clear hK; clear hK; refine hK _ ?_; clear hK)
         | fail
        refine tri_for (fun q : Nat × Bool × Nat => ⟨102, [(8, .v (.int .i64 (q.1 : Int))), (7, .v (.bool q.2.1)), (6, .v (.int .u64 (q.2.2 : Int))), (5, .v (.int .i64 0)), (4, .v (.bool false)), (2, .loc 2 0), (0, .v (.str s))], [(2, [.v (.bool false), .v (.int .i64 0)])], []⟩) (fun q => q.1 ≤ t.length ∧ (t.take q.1).all digB = true ∧ GN q.2.2 q.2.1 (numA 0 (t.take q.1))) (fun q => t.length - q.1) (0, false, 0) ?_ ⟨Nat.zero_le _, rfl, Nat.zero_le _, .inl ⟨rfl, rfl⟩⟩ ?_
        · exact le_of rfl (by simp [LeT, get]) (by simp [LeT, get, setB]) (by simp [LeK, memK])
        rintro ⟨j, gt, n⟩ ⟨hj, hall, hgn⟩
        simp only at hj hall hgn
        by_cases hlt : j < t.length
        · have hc : decide ((j : Int) < (s.length : Int)) = true := by rw [hlen]; simp; omega
          have hk0 : (0 ≤ (j : Int)) = True := eq_true (Int.natCast_nonneg _)
          have hkt : ((j : Int)).toNat = j := Int.toNat_natCast _
          have hix : s[j]? = some t[j] := by rw [hs, List.getElem?_eq_getElem hlt]
          have hna := num_at hlt
          obtain ⟨b, hb⟩ : ∃ b, b = t[j] := ⟨_, rfl⟩
          rw [← hb] at hix hna
          by_cases hdb : digB b = true
          · have hdb2 := hdb
            simp only [digB, Bool.and_eq_true, decide_eq_true_eq] at hdb
            have hal2 := all_at hlt hall (by rw [← hb]; exact hdb2)
            have hd1 : decide ((b.toNat : Int) < 48) = false := by simp; omega
            have hd2 : decide (57 < (b.toNat : Int)) = false := by simp; omega
            obtain ⟨d, hd⟩ : ∃ d, d = b.toNat - 48 := ⟨_, rfl⟩
            rw [← hd] at hna
            have w1 : IntKind.u8.wrap ((b.toNat : Int) - 48) = (d : Int) := by rw [u8_of (by omega)]; omega
            have w2 : IntKind.u64.wrap (d : Int) = (d : Int) := u64_of (by omega)
            have w3 : IntKind.i64.wrap ((j : Int) + 1) = ((j + 1 : Nat) : Int) := by rw [IntWalk.i64_in _ (by omega)]; rfl
            have w4 := w2
            have w5 := w2
            have m1 := w2
            have m2 := w2
            have m3 := w2
            cases gt
            case true =>
              repeat' first
               | with_reducible first | refine thenQ_n ?_ | refine thenQ_r ?_ | refine thenQ_e ?_ | refine blockQ_n ?_ | refine blockQ_r ?_ | refine blockQ_e ?_ | refine tri_seq fun K hK => ?_ | refine tri_skip ?_ | refine tri_ret ?_ | refine tri_exit ?_ | refine tri_block ?_ | refine tri_region ?_ | refine sq_nil ?_
               | refine blockQ_o ?_ (by rfl)
               | ((with_reducible apply s_w); (case hw => exact xWT); first | ((with_reducible apply sg_q); (case hd => exact rfl); (case hn => exact rfl); (case he => (first | exact xE0 | ((with_reducible apply e_bi); (case hx => exact xDK); (case hy => exact xDK); (case hs => exact rfl); (case h => (simp only [binI, Int.reduceAdd, Int.reduceSub, Int.reduceMul, Int.reduceLT, Int.reduceLE, Int.reduceGT, Int.reduceEq, Int.reduceNeg, decide_true, decide_false, Bool.not_true, Bool.not_false, hc, hk0, hkt, hix, hd1, hd2, w1, w2, w3, w4, w5, m1, m2, m3]; with_reducible rfl))) | ((with_reducible apply e_ix); (case hx => exact xDK); (case hi => exact xDK); (case ht => exact xTY); (case hz => exact rfl); (case he => (simp only [hc, hk0, hkt, hix, hd1, hd2, w1, w2, w3, w4, w5, m1, m2, m3]; with_reducible rfl)); (case hc => exact xGS)) | ((with_reducible apply e_ln); (case hx => exact xDK); (case ht => exact xTY); (case hn => (first | (simp only [List.length_map, List.length_cons, List.length_nil, hc, hk0, hkt, hix, hd1, hd2, w1, w2, w3, w4, w5, m1, m2, m3]; with_reducible rfl) | rfl))) | ((with_reducible apply e_nt); (case hx => exact xDK); (case h => (first | (simp only [Bool.not_true, Bool.not_false, hc, hk0, hkt, hix, hd1, hd2, w1, w2, w3, w4, w5, m1, m2, m3]; with_reducible rfl) | rfl)))))) | (((with_reducible apply sg_nil); (case hn => exact rfl); (case hx => exact xDK); (case ht => exact xTY); intro β hβ)) | (((with_reducible apply sg_bx); (case hn => exact rfl); (case hv => exact xLT); (case hc => exact xGS); (case hk => exact rfl))) | (((with_reducible apply sg_al); (case hn => exact rfl); (case hz => exact xTY); (case hc => exact xGS); (case hk => exact rfl))) | (((with_reducible apply sg_st); (case hx => exact xLK); (case hv => exact xLT); (case hc => exact xGS); (case hb => exact rfl); (case ht => exact xTY); (case hz => exact rfl); (case hs => exact xGS))) | (((with_reducible apply sg_e); (case hc => (intros; simp)); (case hs => (simp only [go_sem, Nat.reduceBEq, Nat.reduceBNe, Nat.reduceLT, Nat.reduceGT, Int.reduceGT, Int.reduceMul, Int.reduceAdd, Int.reduceSub, Nat.reduceAdd, Nat.reduceMul, Nat.reduceLeDiff, Nat.reduceEqDiff, Nat.reduceSub, Int.reduceNeg, Int.reduceToNat, Int.reduceLT, Int.reduceLE, Int.reduceEq, Int.cast_ofNat_Int, decide_true, decide_false, Bool.not_true, Bool.not_false, Bool.and_self, reduceIte, reduceCtorEq, hc, hk0, hkt, hix, hd1, hd2, w1, w2, w3, w4, w5, m1, m2, m3]; with_reducible rfl)))))
               | ((with_reducible apply s_n); (case hw => exact xWF); (case hd => exact rfl); (case hn => exact rfl))
               | ((with_reducible apply qs_ct); (case hc => exact xLK); (case he => exact xHB))
               | ((with_reducible apply qs_cf); (case hc => exact xLK); (case he => exact xHB))
               | ((with_reducible apply qs_cond); (case hc => exact xLK); (case hu => exact xUK); all_goals (intro hb))
               | ((with_reducible apply s_if); (case hg => exact rfl); (case hd => exact rfl); (case he => exact rfl); (case hu => exact xUK); all_goals (intro hb))
               | (apply post_2; (case h1 => first | exact r1_t rfl rfl | exact r1_a rfl | (simp only [go_sem, Nat.reduceBEq, Nat.reduceBNe, Nat.reduceLT, Nat.reduceGT, Int.reduceGT, Int.reduceMul, Int.reduceAdd, Int.reduceSub, Nat.reduceAdd, Nat.reduceMul, Nat.reduceLeDiff, Nat.reduceEqDiff, Nat.reduceSub, Int.reduceNeg, Int.reduceToNat, Int.reduceLT, Int.reduceLE, Int.reduceEq, Int.cast_ofNat_Int, decide_true, decide_false, Bool.not_true, Bool.not_false, Bool.and_self, reduceIte, reduceCtorEq]; with_reducible rfl)); (case h2 => exact r1_t rfl rfl); (case he => simp))
               | ((first | apply post_r | apply post_a); (case h1 => first | exact r1_t rfl rfl | (simp only [go_sem, Nat.reduceBEq, Nat.reduceBNe, Nat.reduceLT, Nat.reduceGT, Int.reduceGT, Int.reduceMul, Int.reduceAdd, Int.reduceSub, Nat.reduceAdd, Nat.reduceMul, Nat.reduceLeDiff, Nat.reduceEqDiff, Nat.reduceSub, Int.reduceNeg, Int.reduceToNat, Int.reduceLT, Int.reduceLE, Int.reduceEq, Int.cast_ofNat_Int, decide_true, decide_false, Bool.not_true, Bool.not_false, Bool.and_self, reduceIte, reduceCtorEq, hc, hk0, hkt, hix, hd1, hd2, w1, w2, w3, w4, w5, m1, m2, m3]; with_reducible rfl)); (case he => simp))
               | (refine hK _ ?_; clear hK)
               | (clear hK; refine hK _ ?_; clear hK)
               | (clear hK; clear hK; refine hK _ ?_; clear hK)
               | (clear hK; clear hK; clear hK; refine hK _ ?_; clear hK)
               | (clear hK; clear hK; clear hK; clear hK; refine hK _ ?_; clear hK)
               | fail
              all_goals (repeat (clear hK))
              all_goals exact ⟨(j + 1, true, n), ⟨hlt, hal2, by rw [hna]; exact hgn.stay⟩, by simp only; omega, le_of rfl (by simp [LeT, get]) (by simp [LeT, get, setB]) (by simp [LeK, memK])⟩
            case false =>
              have hn := hgn.1
              by_cases c1 : 922337203685477580 < n
              · have m1 : decide (922337203685477580 < (n : Int)) = true := by simp; omega
                repeat' first
                 | with_reducible first | refine thenQ_n ?_ | refine thenQ_r ?_ | refine thenQ_e ?_ | refine blockQ_n ?_ | refine blockQ_r ?_ | refine blockQ_e ?_ | refine tri_seq fun K hK => ?_ | refine tri_skip ?_ | refine tri_ret ?_ | refine tri_exit ?_ | refine tri_block ?_ | refine tri_region ?_ | refine sq_nil ?_
                 | refine blockQ_o ?_ (by rfl)
                 | ((with_reducible apply s_w); (case hw => exact xWT); first | ((with_reducible apply sg_q); (case hd => exact rfl); (case hn => exact rfl); (case he => (first | exact xE0 | ((with_reducible apply e_bi); (case hx => exact xDK); (case hy => exact xDK); (case hs => exact rfl); (case h => (simp only [binI, Int.reduceAdd, Int.reduceSub, Int.reduceMul, Int.reduceLT, Int.reduceLE, Int.reduceGT, Int.reduceEq, Int.reduceNeg, decide_true, decide_false, Bool.not_true, Bool.not_false, hc, hk0, hkt, hix, hd1, hd2, w1, w2, w3, w4, w5, m1, m2, m3]; with_reducible rfl))) | ((with_reducible apply e_ix); (case hx => exact xDK); (case hi => exact xDK); (case ht => exact xTY); (case hz => exact rfl); (case he => (simp only [hc, hk0, hkt, hix, hd1, hd2, w1, w2, w3, w4, w5, m1, m2, m3]; with_reducible rfl)); (case hc => exact xGS)) | ((with_reducible apply e_ln); (case hx => exact xDK); (case ht => exact xTY); (case hn => (first | (simp only [List.length_map, List.length_cons, List.length_nil, hc, hk0, hkt, hix, hd1, hd2, w1, w2, w3, w4, w5, m1, m2, m3]; with_reducible rfl) | rfl))) | ((with_reducible apply e_nt); (case hx => exact xDK); (case h => (first | (simp only [Bool.not_true, Bool.not_false, hc, hk0, hkt, hix, hd1, hd2, w1, w2, w3, w4, w5, m1, m2, m3]; with_reducible rfl) | rfl)))))) | (((with_reducible apply sg_nil); (case hn => exact rfl); (case hx => exact xDK); (case ht => exact xTY); intro β hβ)) | (((with_reducible apply sg_bx); (case hn => exact rfl); (case hv => exact xLT); (case hc => exact xGS); (case hk => exact rfl))) | (((with_reducible apply sg_al); (case hn => exact rfl); (case hz => exact xTY); (case hc => exact xGS); (case hk => exact rfl))) | (((with_reducible apply sg_st); (case hx => exact xLK); (case hv => exact xLT); (case hc => exact xGS); (case hb => exact rfl); (case ht => exact xTY); (case hz => exact rfl); (case hs => exact xGS))) | (((with_reducible apply sg_e); (case hc => (intros; simp)); (case hs => (simp only [go_sem, Nat.reduceBEq, Nat.reduceBNe, Nat.reduceLT, Nat.reduceGT, Int.reduceGT, Int.reduceMul, Int.reduceAdd, Int.reduceSub, Nat.reduceAdd, Nat.reduceMul, Nat.reduceLeDiff, Nat.reduceEqDiff, Nat.reduceSub, Int.reduceNeg, Int.reduceToNat, Int.reduceLT, Int.reduceLE, Int.reduceEq, Int.cast_ofNat_Int, decide_true, decide_false, Bool.not_true, Bool.not_false, Bool.and_self, reduceIte, reduceCtorEq, hc, hk0, hkt, hix, hd1, hd2, w1, w2, w3, w4, w5, m1, m2, m3]; with_reducible rfl)))))
                 | ((with_reducible apply s_n); (case hw => exact xWF); (case hd => exact rfl); (case hn => exact rfl))
                 | ((with_reducible apply qs_ct); (case hc => exact xLK); (case he => exact xHB))
                 | ((with_reducible apply qs_cf); (case hc => exact xLK); (case he => exact xHB))
                 | ((with_reducible apply qs_cond); (case hc => exact xLK); (case hu => exact xUK); all_goals (intro hb))
                 | ((with_reducible apply s_if); (case hg => exact rfl); (case hd => exact rfl); (case he => exact rfl); (case hu => exact xUK); all_goals (intro hb))
                 | (apply post_2; (case h1 => first | exact r1_t rfl rfl | exact r1_a rfl | (simp only [go_sem, Nat.reduceBEq, Nat.reduceBNe, Nat.reduceLT, Nat.reduceGT, Int.reduceGT, Int.reduceMul, Int.reduceAdd, Int.reduceSub, Nat.reduceAdd, Nat.reduceMul, Nat.reduceLeDiff, Nat.reduceEqDiff, Nat.reduceSub, Int.reduceNeg, Int.reduceToNat, Int.reduceLT, Int.reduceLE, Int.reduceEq, Int.cast_ofNat_Int, decide_true, decide_false, Bool.not_true, Bool.not_false, Bool.and_self, reduceIte, reduceCtorEq]; with_reducible rfl)); (case h2 => exact r1_t rfl rfl); (case he => simp))
                 | ((first | apply post_r | apply post_a); (case h1 => first | exact r1_t rfl rfl | (simp only [go_sem, Nat.reduceBEq, Nat.reduceBNe, Nat.reduceLT, Nat.reduceGT, Int.reduceGT, Int.reduceMul, Int.reduceAdd, Int.reduceSub, Nat.reduceAdd, Nat.reduceMul, Nat.reduceLeDiff, Nat.reduceEqDiff, Nat.reduceSub, Int.reduceNeg, Int.reduceToNat, Int.reduceLT, Int.reduceLE, Int.reduceEq, Int.cast_ofNat_Int, decide_true, decide_false, Bool.not_true, Bool.not_false, Bool.and_self, reduceIte, reduceCtorEq, hc, hk0, hkt, hix, hd1, hd2, w1, w2, w3, w4, w5, m1, m2, m3]; with_reducible rfl)); (case he => simp))
                 | (refine hK _ ?_; clear hK)
                 | (clear hK; refine hK _ ?_; clear hK)
                 | (clear hK; clear hK; refine hK _ ?_; clear hK)
                 | (clear hK; clear hK; clear hK; refine hK _ ?_; clear hK)
                 | (clear hK; clear hK; clear hK; clear hK; refine hK _ ?_; clear hK)
                 | fail
                all_goals (repeat (clear hK))
                all_goals exact ⟨(j + 1, true, n), ⟨hlt, hal2, by rw [hna]; exact hgn.over (.inl c1)⟩, by simp only; omega, le_of rfl (by simp [LeT, get]) (by simp [LeT, get, setB]) (by simp [LeK, memK])⟩
              · have m1 : decide (922337203685477580 < (n : Int)) = false := by simp; omega
                have w4 : IntKind.u64.wrap (10 * (n : Int)) = ((10 * n : Nat) : Int) := by have := u64_of (n := 10 * n) (by omega); rw [Int.natCast_mul] at this ⊢; exact this
                have w5 : IntKind.u64.wrap (((10 * n : Nat) : Int) + (d : Int)) = ((10 * n + d : Nat) : Int) := by have := u64_of (n := 10 * n + d) (by omega); rw [Int.natCast_add] at this ⊢; exact this
                by_cases c2 : n = 922337203685477580
                · have m2 : decide ((n : Int) = 922337203685477580) = true := by simp; omega
                  by_cases c3 : 8 < d
                  · have m3 : decide (8 < (d : Int)) = true := by simp; omega
                    repeat' first
                     | with_reducible first | refine thenQ_n ?_ | refine thenQ_r ?_ | refine thenQ_e ?_ | refine blockQ_n ?_ | refine blockQ_r ?_ | refine blockQ_e ?_ | refine tri_seq fun K hK => ?_ | refine tri_skip ?_ | refine tri_ret ?_ | refine tri_exit ?_ | refine tri_block ?_ | refine tri_region ?_ | refine sq_nil ?_
                     | refine blockQ_o ?_ (by rfl)
                     | ((with_reducible apply s_w); (case hw => exact xWT); first | ((with_reducible apply sg_q); (case hd => exact rfl); (case hn => exact rfl); (case he => (first | exact xE0 | ((with_reducible apply e_bi); (case hx => exact xDK); (case hy => exact xDK); (case hs => exact rfl); (case h => (simp only [binI, Int.reduceAdd, Int.reduceSub, Int.reduceMul, Int.reduceLT, Int.reduceLE, Int.reduceGT, Int.reduceEq, Int.reduceNeg, decide_true, decide_false, Bool.not_true, Bool.not_false, hc, hk0, hkt, hix, hd1, hd2, w1, w2, w3, w4, w5, m1, m2, m3]; with_reducible rfl))) | ((with_reducible apply e_ix); (case hx => exact xDK); (case hi => exact xDK); (case ht => exact xTY); (case hz => exact rfl); (case he => (simp only [hc, hk0, hkt, hix, hd1, hd2, w1, w2, w3, w4, w5, m1, m2, m3]; with_reducible rfl)); (case hc => exact xGS)) | ((with_reducible apply e_ln); (case hx => exact xDK); (case ht => exact xTY); (case hn => (first | (simp only [List.length_map, List.length_cons, List.length_nil, hc, hk0, hkt, hix, hd1, hd2, w1, w2, w3, w4, w5, m1, m2, m3]; with_reducible rfl) | rfl))) | ((with_reducible apply e_nt); (case hx => exact xDK); (case h => (first | (simp only [Bool.not_true, Bool.not_false, hc, hk0, hkt, hix, hd1, hd2, w1, w2, w3, w4, w5, m1, m2, m3]; with_reducible rfl) | rfl)))))) | (((with_reducible apply sg_nil); (case hn => exact rfl); (case hx => exact xDK); (case ht => exact xTY); intro β hβ)) | (((with_reducible apply sg_bx); (case hn => exact rfl); (case hv => exact xLT); (case hc => exact xGS); (case hk => exact rfl))) | (((with_reducible apply sg_al); (case hn => exact rfl); (case hz => exact xTY); (case hc => exact xGS); (case hk => exact rfl))) | (((with_reducible apply sg_st); (case hx => exact xLK); (case hv => exact xLT); (case hc => exact xGS); (case hb => exact rfl); (case ht => exact xTY); (case hz => exact rfl); (case hs => exact xGS))) | (((with_reducible apply sg_e); (case hc => (intros; simp)); (case hs => (simp only [go_sem, Nat.reduceBEq, Nat.reduceBNe, Nat.reduceLT, Nat.reduceGT, Int.reduceGT, Int.reduceMul, Int.reduceAdd, Int.reduceSub, Nat.reduceAdd, Nat.reduceMul, Nat.reduceLeDiff, Nat.reduceEqDiff, Nat.reduceSub, Int.reduceNeg, Int.reduceToNat, Int.reduceLT, Int.reduceLE, Int.reduceEq, Int.cast_ofNat_Int, decide_true, decide_false, Bool.not_true, Bool.not_false, Bool.and_self, reduceIte, reduceCtorEq, hc, hk0, hkt, hix, hd1, hd2, w1, w2, w3, w4, w5, m1, m2, m3]; with_reducible rfl)))))
                     | ((with_reducible apply s_n); (case hw => exact xWF); (case hd => exact rfl); (case hn => exact rfl))
                     | ((with_reducible apply qs_ct); (case hc => exact xLK); (case he => exact xHB))
                     | ((with_reducible apply qs_cf); (case hc => exact xLK); (case he => exact xHB))
                     | ((with_reducible apply qs_cond); (case hc => exact xLK); (case hu => exact xUK); all_goals (intro hb))
                     | ((with_reducible apply s_if); (case hg => exact rfl); (case hd => exact rfl); (case he => exact rfl); (case hu => exact xUK); all_goals (intro hb))
                     | (apply post_2; (case h1 => first | exact r1_t rfl rfl | exact r1_a rfl | (simp only [go_sem, Nat.reduceBEq, Nat.reduceBNe, Nat.reduceLT, Nat.reduceGT, Int.reduceGT, Int.reduceMul, Int.reduceAdd, Int.reduceSub, Nat.reduceAdd, Nat.reduceMul, Nat.reduceLeDiff, Nat.reduceEqDiff, Nat.reduceSub, Int.reduceNeg, Int.reduceToNat, Int.reduceLT, Int.reduceLE, Int.reduceEq, Int.cast_ofNat_Int, decide_true, decide_false, Bool.not_true, Bool.not_false, Bool.and_self, reduceIte, reduceCtorEq]; with_reducible rfl)); (case h2 => exact r1_t rfl rfl); (case he => simp))
                     | ((first | apply post_r | apply post_a); (case h1 => first | exact r1_t rfl rfl | (simp only [go_sem, Nat.reduceBEq, Nat.reduceBNe, Nat.reduceLT, Nat.reduceGT, Int.reduceGT, Int.reduceMul, Int.reduceAdd, Int.reduceSub, Nat.reduceAdd, Nat.reduceMul, Nat.reduceLeDiff, Nat.reduceEqDiff, Nat.reduceSub, Int.reduceNeg, Int.reduceToNat, Int.reduceLT, Int.reduceLE, Int.reduceEq, Int.cast_ofNat_Int, decide_true, decide_false, Bool.not_true, Bool.not_false, Bool.and_self, reduceIte, reduceCtorEq, hc, hk0, hkt, hix, hd1, hd2, w1, w2, w3, w4, w5, m1, m2, m3]; with_reducible rfl)); (case he => simp))
                     | (refine hK _ ?_; clear hK)
                     | (clear hK; refine hK _ ?_; clear hK)
                     | (clear hK; clear hK; refine hK _ ?_; clear hK)
                     | (clear hK; clear hK; clear hK; refine hK _ ?_; clear hK)
                     | (clear hK; clear hK; clear hK; clear hK; refine hK _ ?_; clear hK)
                     | fail
                    all_goals (repeat (clear hK))
                    all_goals exact ⟨(j + 1, true, n), ⟨hlt, hal2, by rw [hna]; exact hgn.over (.inr ⟨c2, c3⟩)⟩, by simp only; omega, le_of rfl (by simp [LeT, get]) (by simp [LeT, get, setB]) (by simp [LeK, memK])⟩
                  · have m3 : decide (8 < (d : Int)) = false := by simp; omega
                    repeat' first
                     | with_reducible first | refine thenQ_n ?_ | refine thenQ_r ?_ | refine thenQ_e ?_ | refine blockQ_n ?_ | refine blockQ_r ?_ | refine blockQ_e ?_ | refine tri_seq fun K hK => ?_ | refine tri_skip ?_ | refine tri_ret ?_ | refine tri_exit ?_ | refine tri_block ?_ | refine tri_region ?_ | refine sq_nil ?_
                     | refine blockQ_o ?_ (by rfl)
                     | ((with_reducible apply s_w); (case hw => exact xWT); first | ((with_reducible apply sg_q); (case hd => exact rfl); (case hn => exact rfl); (case he => (first | exact xE0 | ((with_reducible apply e_bi); (case hx => exact xDK); (case hy => exact xDK); (case hs => exact rfl); (case h => (simp only [binI, Int.reduceAdd, Int.reduceSub, Int.reduceMul, Int.reduceLT, Int.reduceLE, Int.reduceGT, Int.reduceEq, Int.reduceNeg, decide_true, decide_false, Bool.not_true, Bool.not_false, hc, hk0, hkt, hix, hd1, hd2, w1, w2, w3, w4, w5, m1, m2, m3]; with_reducible rfl))) | ((with_reducible apply e_ix); (case hx => exact xDK); (case hi => exact xDK); (case ht => exact xTY); (case hz => exact rfl); (case he => (simp only [hc, hk0, hkt, hix, hd1, hd2, w1, w2, w3, w4, w5, m1, m2, m3]; with_reducible rfl)); (case hc => exact xGS)) | ((with_reducible apply e_ln); (case hx => exact xDK); (case ht => exact xTY); (case hn => (first | (simp only [List.length_map, List.length_cons, List.length_nil, hc, hk0, hkt, hix, hd1, hd2, w1, w2, w3, w4, w5, m1, m2, m3]; with_reducible rfl) | rfl))) | ((with_reducible apply e_nt); (case hx => exact xDK); (case h => (first | (simp only [Bool.not_true, Bool.not_false, hc, hk0, hkt, hix, hd1, hd2, w1, w2, w3, w4, w5, m1, m2, m3]; with_reducible rfl) | rfl)))))) | (((with_reducible apply sg_nil); (case hn => exact rfl); (case hx => exact xDK); (case ht => exact xTY); intro β hβ)) | (((with_reducible apply sg_bx); (case hn => exact rfl); (case hv => exact xLT); (case hc => exact xGS); (case hk => exact rfl))) | (((with_reducible apply sg_al); (case hn => exact rfl); (case hz => exact xTY); (case hc => exact xGS); (case hk => exact rfl))) | (((with_reducible apply sg_st); (case hx => exact xLK); (case hv => exact xLT); (case hc => exact xGS); (case hb => exact rfl); (case ht => exact xTY); (case hz => exact rfl); (case hs => exact xGS))) | (((with_reducible apply sg_e); (case hc => (intros; simp)); (case hs => (simp only [go_sem, Nat.reduceBEq, Nat.reduceBNe, Nat.reduceLT, Nat.reduceGT, Int.reduceGT, Int.reduceMul, Int.reduceAdd, Int.reduceSub, Nat.reduceAdd, Nat.reduceMul, Nat.reduceLeDiff, Nat.reduceEqDiff, Nat.reduceSub, Int.reduceNeg, Int.reduceToNat, Int.reduceLT, Int.reduceLE, Int.reduceEq, Int.cast_ofNat_Int, decide_true, decide_false, Bool.not_true, Bool.not_false, Bool.and_self, reduceIte, reduceCtorEq, hc, hk0, hkt, hix, hd1, hd2, w1, w2, w3, w4, w5, m1, m2, m3]; with_reducible rfl)))))
                     | ((with_reducible apply s_n); (case hw => exact xWF); (case hd => exact rfl); (case hn => exact rfl))
                     | ((with_reducible apply qs_ct); (case hc => exact xLK); (case he => exact xHB))
                     | ((with_reducible apply qs_cf); (case hc => exact xLK); (case he => exact xHB))
                     | ((with_reducible apply qs_cond); (case hc => exact xLK); (case hu => exact xUK); all_goals (intro hb))
                     | ((with_reducible apply s_if); (case hg => exact rfl); (case hd => exact rfl); (case he => exact rfl); (case hu => exact xUK); all_goals (intro hb))
                     | (apply post_2; (case h1 => first | exact r1_t rfl rfl | exact r1_a rfl | (simp only [go_sem, Nat.reduceBEq, Nat.reduceBNe, Nat.reduceLT, Nat.reduceGT, Int.reduceGT, Int.reduceMul, Int.reduceAdd, Int.reduceSub, Nat.reduceAdd, Nat.reduceMul, Nat.reduceLeDiff, Nat.reduceEqDiff, Nat.reduceSub, Int.reduceNeg, Int.reduceToNat, Int.reduceLT, Int.reduceLE, Int.reduceEq, Int.cast_ofNat_Int, decide_true, decide_false, Bool.not_true, Bool.not_false, Bool.and_self, reduceIte, reduceCtorEq]; with_reducible rfl)); (case h2 => exact r1_t rfl rfl); (case he => simp))
                     | ((first | apply post_r | apply post_a); (case h1 => first | exact r1_t rfl rfl | (simp only [go_sem, Nat.reduceBEq, Nat.reduceBNe, Nat.reduceLT, Nat.reduceGT, Int.reduceGT, Int.reduceMul, Int.reduceAdd, Int.reduceSub, Nat.reduceAdd, Nat.reduceMul, Nat.reduceLeDiff, Nat.reduceEqDiff, Nat.reduceSub, Int.reduceNeg, Int.reduceToNat, Int.reduceLT, Int.reduceLE, Int.reduceEq, Int.cast_ofNat_Int, decide_true, decide_false, Bool.not_true, Bool.not_false, Bool.and_self, reduceIte, reduceCtorEq, hc, hk0, hkt, hix, hd1, hd2, w1, w2, w3, w4, w5, m1, m2, m3]; with_reducible rfl)); (case he => simp))
                     | (refine hK _ ?_; clear hK)
                     | (clear hK; refine hK _ ?_; clear hK)
                     | (clear hK; clear hK; refine hK _ ?_; clear hK)
                     | (clear hK; clear hK; clear hK; refine hK _ ?_; clear hK)
                     | (clear hK; clear hK; clear hK; clear hK; refine hK _ ?_; clear hK)
                     | fail
                    all_goals (repeat (clear hK))
                    all_goals exact ⟨(j + 1, false, 10 * n + d), ⟨hlt, hal2, by rw [hna]; exact hgn.next (by omega) (.inr ⟨c2, c3⟩)⟩, by simp only; omega, le_of rfl (by simp [LeT, get]) (by simp [LeT, get, setB]) (by simp [LeK, memK])⟩
                · have m2 : decide ((n : Int) = 922337203685477580) = false := by simp; omega
                  repeat' first
                   | with_reducible first | refine thenQ_n ?_ | refine thenQ_r ?_ | refine thenQ_e ?_ | refine blockQ_n ?_ | refine blockQ_r ?_ | refine blockQ_e ?_ | refine tri_seq fun K hK => ?_ | refine tri_skip ?_ | refine tri_ret ?_ | refine tri_exit ?_ | refine tri_block ?_ | refine tri_region ?_ | refine sq_nil ?_
                   | refine blockQ_o ?_ (by rfl)
                   | ((with_reducible apply s_w); (case hw => exact xWT); first | ((with_reducible apply sg_q); (case hd => exact rfl); (case hn => exact rfl); (case he => (first | exact xE0 | ((with_reducible apply e_bi); (case hx => exact xDK); (case hy => exact xDK); (case hs => exact rfl); (case h => (simp only [binI, Int.reduceAdd, Int.reduceSub, Int.reduceMul, Int.reduceLT, Int.reduceLE, Int.reduceGT, Int.reduceEq, Int.reduceNeg, decide_true, decide_false, Bool.not_true, Bool.not_false, hc, hk0, hkt, hix, hd1, hd2, w1, w2, w3, w4, w5, m1, m2, m3]; with_reducible rfl))) | ((with_reducible apply e_ix); (case hx => exact xDK); (case hi => exact xDK); (case ht => exact xTY); (case hz => exact rfl); (case he => (simp only [hc, hk0, hkt, hix, hd1, hd2, w1, w2, w3, w4, w5, m1, m2, m3]; with_reducible rfl)); (case hc => exact xGS)) | ((with_reducible apply e_ln); (case hx => exact xDK); (case ht => exact xTY); (case hn => (first | (simp only [List.length_map, List.length_cons, List.length_nil, hc, hk0, hkt, hix, hd1, hd2, w1, w2, w3, w4, w5, m1, m2, m3]; with_reducible rfl) | rfl))) | ((with_reducible apply e_nt); (case hx => exact xDK); (case h => (first | (simp only [Bool.not_true, Bool.not_false, hc, hk0, hkt, hix, hd1, hd2, w1, w2, w3, w4, w5, m1, m2, m3]; with_reducible rfl) | rfl)))))) | (((with_reducible apply sg_nil); (case hn => exact rfl); (case hx => exact xDK); (case ht => exact xTY); intro β hβ)) | (((with_reducible apply sg_bx); (case hn => exact rfl); (case hv => exact xLT); (case hc => exact xGS); (case hk => exact rfl))) | (((with_reducible apply sg_al); (case hn => exact rfl); (case hz => exact xTY); (case hc => exact xGS); (case hk => exact rfl))) | (((with_reducible apply sg_st); (case hx => exact xLK); (case hv => exact xLT); (case hc => exact xGS); (case hb => exact rfl); (case ht => exact xTY); (case hz => exact rfl); (case hs => exact xGS))) | (((with_reducible apply sg_e); (case hc => (intros; simp)); (case hs => (simp only [go_sem, Nat.reduceBEq, Nat.reduceBNe, Nat.reduceLT, Nat.reduceGT, Int.reduceGT, Int.reduceMul, Int.reduceAdd, Int.reduceSub, Nat.reduceAdd, Nat.reduceMul, Nat.reduceLeDiff, Nat.reduceEqDiff, Nat.reduceSub, Int.reduceNeg, Int.reduceToNat, Int.reduceLT, Int.reduceLE, Int.reduceEq, Int.cast_ofNat_Int, decide_true, decide_false, Bool.not_true, Bool.not_false, Bool.and_self, reduceIte, reduceCtorEq, hc, hk0, hkt, hix, hd1, hd2, w1, w2, w3, w4, w5, m1, m2, m3]; with_reducible rfl)))))
                   | ((with_reducible apply s_n); (case hw => exact xWF); (case hd => exact rfl); (case hn => exact rfl))
                   | ((with_reducible apply qs_ct); (case hc => exact xLK); (case he => exact xHB))
                   | ((with_reducible apply qs_cf); (case hc => exact xLK); (case he => exact xHB))
                   | ((with_reducible apply qs_cond); (case hc => exact xLK); (case hu => exact xUK); all_goals (intro hb))
                   | ((with_reducible apply s_if); (case hg => exact rfl); (case hd => exact rfl); (case he => exact rfl); (case hu => exact xUK); all_goals (intro hb))
                   | (apply post_2; (case h1 => first | exact r1_t rfl rfl | exact r1_a rfl | (simp only [go_sem, Nat.reduceBEq, Nat.reduceBNe, Nat.reduceLT, Nat.reduceGT, Int.reduceGT, Int.reduceMul, Int.reduceAdd, Int.reduceSub, Nat.reduceAdd, Nat.reduceMul, Nat.reduceLeDiff, Nat.reduceEqDiff, Nat.reduceSub, Int.reduceNeg, Int.reduceToNat, Int.reduceLT, Int.reduceLE, Int.reduceEq, Int.cast_ofNat_Int, decide_true, decide_false, Bool.not_true, Bool.not_false, Bool.and_self, reduceIte, reduceCtorEq]; with_reducible rfl)); (case h2 => exact r1_t rfl rfl); (case he => simp))
                   | ((first | apply post_r | apply post_a); (case h1 => first | exact r1_t rfl rfl | (simp only [go_sem, Nat.reduceBEq, Nat.reduceBNe, Nat.reduceLT, Nat.reduceGT, Int.reduceGT, Int.reduceMul, Int.reduceAdd, Int.reduceSub, Nat.reduceAdd, Nat.reduceMul, Nat.reduceLeDiff, Nat.reduceEqDiff, Nat.reduceSub, Int.reduceNeg, Int.reduceToNat, Int.reduceLT, Int.reduceLE, Int.reduceEq, Int.cast_ofNat_Int, decide_true, decide_false, Bool.not_true, Bool.not_false, Bool.and_self, reduceIte, reduceCtorEq, hc, hk0, hkt, hix, hd1, hd2, w1, w2, w3, w4, w5, m1, m2, m3]; with_reducible rfl)); (case he => simp))
                   | (refine hK _ ?_; clear hK)
                   | (clear hK; refine hK _ ?_; clear hK)
                   | (clear hK; clear hK; refine hK _ ?_; clear hK)
                   | (clear hK; clear hK; clear hK; refine hK _ ?_; clear hK)
                   | (clear hK; clear hK; clear hK; clear hK; refine hK _ ?_; clear hK)
                   | fail
                  all_goals (repeat (clear hK))
                  all_goals exact ⟨(j + 1, false, 10 * n + d), ⟨hlt, hal2, by rw [hna]; exact hgn.next (by omega) (.inl (by omega))⟩, by simp only; omega, le_of rfl (by simp [LeT, get]) (by simp [LeT, get, setB]) (by simp [LeK, memK])⟩
          · have hE := par_no h0 (digs_no (s := s) (by rw [hbody]; exact all_no hlt (by rw [← hb]; simpa using hdb)))
            rw [hE] at hres
            subst hres
            have hdb2 : digB b = false := by simpa using hdb
            simp only [digB, Bool.and_eq_false_iff, decide_eq_false_iff_not] at hdb2
            by_cases c1 : b.toNat < 48
            · have hd1 : decide ((b.toNat : Int) < 48) = true := by simp; omega
              have hd2 := hd1
              repeat' first
               | with_reducible first | refine thenQ_n ?_ | refine thenQ_r ?_ | refine thenQ_e ?_ | refine blockQ_n ?_ | refine blockQ_r ?_ | refine blockQ_e ?_ | refine tri_seq fun K hK => ?_ | refine tri_skip ?_ | refine tri_ret ?_ | refine tri_exit ?_ | refine tri_block ?_ | refine tri_region ?_ | refine sq_nil ?_
               | refine blockQ_o ?_ (by rfl)
               | ((with_reducible apply s_w); (case hw => exact xWT); first | ((with_reducible apply sg_q); (case hd => exact rfl); (case hn => exact rfl); (case he => (first | exact xE0 | ((with_reducible apply e_bi); (case hx => exact xDK); (case hy => exact xDK); (case hs => exact rfl); (case h => (simp only [binI, Int.reduceAdd, Int.reduceSub, Int.reduceMul, Int.reduceLT, Int.reduceLE, Int.reduceGT, Int.reduceEq, Int.reduceNeg, decide_true, decide_false, Bool.not_true, Bool.not_false, hc, hk0, hkt, hix, hd1, hd2]; with_reducible rfl))) | ((with_reducible apply e_ix); (case hx => exact xDK); (case hi => exact xDK); (case ht => exact xTY); (case hz => exact rfl); (case he => (simp only [hc, hk0, hkt, hix, hd1, hd2]; with_reducible rfl)); (case hc => exact xGS)) | ((with_reducible apply e_ln); (case hx => exact xDK); (case ht => exact xTY); (case hn => (first | (simp only [List.length_map, List.length_cons, List.length_nil, hc, hk0, hkt, hix, hd1, hd2]; with_reducible rfl) | rfl))) | ((with_reducible apply e_nt); (case hx => exact xDK); (case h => (first | (simp only [Bool.not_true, Bool.not_false, hc, hk0, hkt, hix, hd1, hd2]; with_reducible rfl) | rfl)))))) | (((with_reducible apply sg_nil); (case hn => exact rfl); (case hx => exact xDK); (case ht => exact xTY); intro β hβ)) | (((with_reducible apply sg_bx); (case hn => exact rfl); (case hv => exact xLT); (case hc => exact xGS); (case hk => exact rfl))) | (((with_reducible apply sg_al); (case hn => exact rfl); (case hz => exact xTY); (case hc => exact xGS); (case hk => exact rfl))) | (((with_reducible apply sg_st); (case hx => exact xLK); (case hv => exact xLT); (case hc => exact xGS); (case hb => exact rfl); (case ht => exact xTY); (case hz => exact rfl); (case hs => exact xGS))) | (((with_reducible apply sg_e); (case hc => (intros; simp)); (case hs => (simp only [go_sem, Nat.reduceBEq, Nat.reduceBNe, Nat.reduceLT, Nat.reduceGT, Int.reduceGT, Int.reduceMul, Int.reduceAdd, Int.reduceSub, Nat.reduceAdd, Nat.reduceMul, Nat.reduceLeDiff, Nat.reduceEqDiff, Nat.reduceSub, Int.reduceNeg, Int.reduceToNat, Int.reduceLT, Int.reduceLE, Int.reduceEq, Int.cast_ofNat_Int, decide_true, decide_false, Bool.not_true, Bool.not_false, Bool.and_self, reduceIte, reduceCtorEq, hc, hk0, hkt, hix, hd1, hd2]; with_reducible rfl)))))
               | ((with_reducible apply s_n); (case hw => exact xWF); (case hd => exact rfl); (case hn => exact rfl))
               | ((with_reducible apply qs_ct); (case hc => exact xLK); (case he => exact xHB))
               | ((with_reducible apply qs_cf); (case hc => exact xLK); (case he => exact xHB))
               | ((with_reducible apply qs_cond); (case hc => exact xLK); (case hu => exact xUK); all_goals (intro hb))
               | ((with_reducible apply s_if); (case hg => exact rfl); (case hd => exact rfl); (case he => exact rfl); (case hu => exact xUK); all_goals (intro hb))
               | (apply post_2; (case h1 => first | exact r1_t rfl rfl | exact r1_a rfl | (simp only [go_sem, Nat.reduceBEq, Nat.reduceBNe, Nat.reduceLT, Nat.reduceGT, Int.reduceGT, Int.reduceMul, Int.reduceAdd, Int.reduceSub, Nat.reduceAdd, Nat.reduceMul, Nat.reduceLeDiff, Nat.reduceEqDiff, Nat.reduceSub, Int.reduceNeg, Int.reduceToNat, Int.reduceLT, Int.reduceLE, Int.reduceEq, Int.cast_ofNat_Int, decide_true, decide_false, Bool.not_true, Bool.not_false, Bool.and_self, reduceIte, reduceCtorEq]; with_reducible rfl)); (case h2 => exact r1_t rfl rfl); (case he => simp))
               | ((first | apply post_r | apply post_a); (case h1 => first | exact r1_t rfl rfl | (simp only [go_sem, Nat.reduceBEq, Nat.reduceBNe, Nat.reduceLT, Nat.reduceGT, Int.reduceGT, Int.reduceMul, Int.reduceAdd, Int.reduceSub, Nat.reduceAdd, Nat.reduceMul, Nat.reduceLeDiff, Nat.reduceEqDiff, Nat.reduceSub, Int.reduceNeg, Int.reduceToNat, Int.reduceLT, Int.reduceLE, Int.reduceEq, Int.cast_ofNat_Int, decide_true, decide_false, Bool.not_true, Bool.not_false, Bool.and_self, reduceIte, reduceCtorEq, hc, hk0, hkt, hix, hd1, hd2]; with_reducible rfl)); (case he => simp))
               | (refine hK _ ?_; clear hK)
               | (clear hK; refine hK _ ?_; clear hK)
               | (clear hK; clear hK; refine hK _ ?_; clear hK)
               | (clear hK; clear hK; clear hK; refine hK _ ?_; clear hK)
               | (clear hK; clear hK; clear hK; clear hK; refine hK _ ?_; clear hK)
               | fail
              all_goals (repeat (clear hK))
              all_goals first | done | rfl
            · have hd1 : decide ((b.toNat : Int) < 48) = false := by simp; omega
              have hd2 : decide (57 < (b.toNat : Int)) = true := by simp; omega
              repeat' first
               | with_reducible first | refine thenQ_n ?_ | refine thenQ_r ?_ | refine thenQ_e ?_ | refine blockQ_n ?_ | refine blockQ_r ?_ | refine blockQ_e ?_ | refine tri_seq fun K hK => ?_ | refine tri_skip ?_ | refine tri_ret ?_ | refine tri_exit ?_ | refine tri_block ?_ | refine tri_region ?_ | refine sq_nil ?_
               | refine blockQ_o ?_ (by rfl)
               | ((with_reducible apply s_w); (case hw => exact xWT); first | ((with_reducible apply sg_q); (case hd => exact rfl); (case hn => exact rfl); (case he => (first | exact xE0 | ((with_reducible apply e_bi); (case hx => exact xDK); (case hy => exact xDK); (case hs => exact rfl); (case h => (simp only [binI, Int.reduceAdd, Int.reduceSub, Int.reduceMul, Int.reduceLT, Int.reduceLE, Int.reduceGT, Int.reduceEq, Int.reduceNeg, decide_true, decide_false, Bool.not_true, Bool.not_false, hc, hk0, hkt, hix, hd1, hd2]; with_reducible rfl))) | ((with_reducible apply e_ix); (case hx => exact xDK); (case hi => exact xDK); (case ht => exact xTY); (case hz => exact rfl); (case he => (simp only [hc, hk0, hkt, hix, hd1, hd2]; with_reducible rfl)); (case hc => exact xGS)) | ((with_reducible apply e_ln); (case hx => exact xDK); (case ht => exact xTY); (case hn => (first | (simp only [List.length_map, List.length_cons, List.length_nil, hc, hk0, hkt, hix, hd1, hd2]; with_reducible rfl) | rfl))) | ((with_reducible apply e_nt); (case hx => exact xDK); (case h => (first | (simp only [Bool.not_true, Bool.not_false, hc, hk0, hkt, hix, hd1, hd2]; with_reducible rfl) | rfl)))))) | (((with_reducible apply sg_nil); (case hn => exact rfl); (case hx => exact xDK); (case ht => exact xTY); intro β hβ)) | (((with_reducible apply sg_bx); (case hn => exact rfl); (case hv => exact xLT); (case hc => exact xGS); (case hk => exact rfl))) | (((with_reducible apply sg_al); (case hn => exact rfl); (case hz => exact xTY); (case hc => exact xGS); (case hk => exact rfl))) | (((with_reducible apply sg_st); (case hx => exact xLK); (case hv => exact xLT); (case hc => exact xGS); (case hb => exact rfl); (case ht => exact xTY); (case hz => exact rfl); (case hs => exact xGS))) | (((with_reducible apply sg_e); (case hc => (intros; simp)); (case hs => (simp only [go_sem, Nat.reduceBEq, Nat.reduceBNe, Nat.reduceLT, Nat.reduceGT, Int.reduceGT, Int.reduceMul, Int.reduceAdd, Int.reduceSub, Nat.reduceAdd, Nat.reduceMul, Nat.reduceLeDiff, Nat.reduceEqDiff, Nat.reduceSub, Int.reduceNeg, Int.reduceToNat, Int.reduceLT, Int.reduceLE, Int.reduceEq, Int.cast_ofNat_Int, decide_true, decide_false, Bool.not_true, Bool.not_false, Bool.and_self, reduceIte, reduceCtorEq, hc, hk0, hkt, hix, hd1, hd2]; with_reducible rfl)))))
               | ((with_reducible apply s_n); (case hw => exact xWF); (case hd => exact rfl); (case hn => exact rfl))
               | ((with_reducible apply qs_ct); (case hc => exact xLK); (case he => exact xHB))
               | ((with_reducible apply qs_cf); (case hc => exact xLK); (case he => exact xHB))
               | ((with_reducible apply qs_cond); (case hc => exact xLK); (case hu => exact xUK); all_goals (intro hb))
               | ((with_reducible apply s_if); (case hg => exact rfl); (case hd => exact rfl); (case he => exact rfl); (case hu => exact xUK); all_goals (intro hb))
               | (apply post_2; (case h1 => first | exact r1_t rfl rfl | exact r1_a rfl | (simp only [go_sem, Nat.reduceBEq, Nat.reduceBNe, Nat.reduceLT, Nat.reduceGT, Int.reduceGT, Int.reduceMul, Int.reduceAdd, Int.reduceSub, Nat.reduceAdd, Nat.reduceMul, Nat.reduceLeDiff, Nat.reduceEqDiff, Nat.reduceSub, Int.reduceNeg, Int.reduceToNat, Int.reduceLT, Int.reduceLE, Int.reduceEq, Int.cast_ofNat_Int, decide_true, decide_false, Bool.not_true, Bool.not_false, Bool.and_self, reduceIte, reduceCtorEq]; with_reducible rfl)); (case h2 => exact r1_t rfl rfl); (case he => simp))
               | ((first | apply post_r | apply post_a); (case h1 => first | exact r1_t rfl rfl | (simp only [go_sem, Nat.reduceBEq, Nat.reduceBNe, Nat.reduceLT, Nat.reduceGT, Int.reduceGT, Int.reduceMul, Int.reduceAdd, Int.reduceSub, Nat.reduceAdd, Nat.reduceMul, Nat.reduceLeDiff, Nat.reduceEqDiff, Nat.reduceSub, Int.reduceNeg, Int.reduceToNat, Int.reduceLT, Int.reduceLE, Int.reduceEq, Int.cast_ofNat_Int, decide_true, decide_false, Bool.not_true, Bool.not_false, Bool.and_self, reduceIte, reduceCtorEq, hc, hk0, hkt, hix, hd1, hd2]; with_reducible rfl)); (case he => simp))
               | (refine hK _ ?_; clear hK)
               | (clear hK; refine hK _ ?_; clear hK)
               | (clear hK; clear hK; refine hK _ ?_; clear hK)
               | (clear hK; clear hK; clear hK; refine hK _ ?_; clear hK)
               | (clear hK; clear hK; clear hK; clear hK; refine hK _ ?_; clear hK)
               | fail
              all_goals (repeat (clear hK))
              all_goals first | done | rfl
        · have hc : decide ((j : Int) < (s.length : Int)) = false := by rw [hlen]; simp; omega
          have hjt : j = t.length := by omega
          rw [hjt, List.take_length] at hall hgn
          have hdg := digs_of (s := s) (by rw [hbody]; exact hall) (hbody.trans htc)
          have hix : s[0]? = some c := by rw [hs, htc]; rfl
          cases hz1 : decide ((c.toNat : Int) = 48)
          all_goals cases hz2 : decide (1 < (s.length : Int))
          all_goals rw [hz1, hz2] at hdg
          · skip
            have hE := par_p h0 hdg hmm
            rw [hbody] at hE
            rcases hgn with ⟨hn, ⟨rfl, hu⟩ | ⟨rfl, hu⟩⟩
            · rw [hu] at hE
              by_cases c1 : n = 9223372036854775808
              · have q1 : decide ((n : Int) = 9223372036854775808) = true := by simp; omega
                rw [if_neg (by omega)] at hE
                rw [hE] at hres
                subst hres
                have q2 := q1
                have q3 := q1
                have q4 := q1
                repeat' first
                 | with_reducible first | refine thenQ_n ?_ | refine thenQ_r ?_ | refine thenQ_e ?_ | refine blockQ_n ?_ | refine blockQ_r ?_ | refine blockQ_e ?_ | refine tri_seq fun K hK => ?_ | refine tri_skip ?_ | refine tri_ret ?_ | refine tri_exit ?_ | refine tri_block ?_ | refine tri_region ?_ | refine sq_nil ?_
                 | refine blockQ_o ?_ (by rfl)
                 | ((with_reducible apply s_w); (case hw => exact xWT); first | ((with_reducible apply sg_q); (case hd => exact rfl); (case hn => exact rfl); (case he => (first | exact xE0 | ((with_reducible apply e_bi); (case hx => exact xDK); (case hy => exact xDK); (case hs => exact rfl); (case h => (simp only [binI, Int.reduceAdd, Int.reduceSub, Int.reduceMul, Int.reduceLT, Int.reduceLE, Int.reduceGT, Int.reduceEq, Int.reduceNeg, decide_true, decide_false, Bool.not_true, Bool.not_false, hc, hix, hz1, hz2, q1, q2, q3, q4]; with_reducible rfl))) | ((with_reducible apply e_ix); (case hx => exact xDK); (case hi => exact xDK); (case ht => exact xTY); (case hz => exact rfl); (case he => (simp only [hc, hix, hz1, hz2, q1, q2, q3, q4]; with_reducible rfl)); (case hc => exact xGS)) | ((with_reducible apply e_ln); (case hx => exact xDK); (case ht => exact xTY); (case hn => (first | (simp only [List.length_map, List.length_cons, List.length_nil, hc, hix, hz1, hz2, q1, q2, q3, q4]; with_reducible rfl) | rfl))) | ((with_reducible apply e_nt); (case hx => exact xDK); (case h => (first | (simp only [Bool.not_true, Bool.not_false, hc, hix, hz1, hz2, q1, q2, q3, q4]; with_reducible rfl) | rfl)))))) | (((with_reducible apply sg_nil); (case hn => exact rfl); (case hx => exact xDK); (case ht => exact xTY); intro β hβ)) | (((with_reducible apply sg_bx); (case hn => exact rfl); (case hv => exact xLT); (case hc => exact xGS); (case hk => exact rfl))) | (((with_reducible apply sg_al); (case hn => exact rfl); (case hz => exact xTY); (case hc => exact xGS); (case hk => exact rfl))) | (((with_reducible apply sg_st); (case hx => exact xLK); (case hv => exact xLT); (case hc => exact xGS); (case hb => exact rfl); (case ht => exact xTY); (case hz => exact rfl); (case hs => exact xGS))) | (((with_reducible apply sg_e); (case hc => (intros; simp)); (case hs => (simp only [go_sem, Nat.reduceBEq, Nat.reduceBNe, Nat.reduceLT, Nat.reduceGT, Int.reduceGT, Int.reduceMul, Int.reduceAdd, Int.reduceSub, Nat.reduceAdd, Nat.reduceMul, Nat.reduceLeDiff, Nat.reduceEqDiff, Nat.reduceSub, Int.reduceNeg, Int.reduceToNat, Int.reduceLT, Int.reduceLE, Int.reduceEq, Int.cast_ofNat_Int, decide_true, decide_false, Bool.not_true, Bool.not_false, Bool.and_self, reduceIte, reduceCtorEq, hc, hix, hz1, hz2, q1, q2, q3, q4]; with_reducible rfl)))))
                 | ((with_reducible apply s_n); (case hw => exact xWF); (case hd => exact rfl); (case hn => exact rfl))
                 | ((with_reducible apply qs_ct); (case hc => exact xLK); (case he => exact xHB))
                 | ((with_reducible apply qs_cf); (case hc => exact xLK); (case he => exact xHB))
                 | ((with_reducible apply qs_cond); (case hc => exact xLK); (case hu => exact xUK); all_goals (intro hb))
                 | ((with_reducible apply s_if); (case hg => exact rfl); (case hd => exact rfl); (case he => exact rfl); (case hu => exact xUK); all_goals (intro hb))
                 | (apply post_2; (case h1 => first | exact r1_t rfl rfl | exact r1_a rfl | (simp only [go_sem, Nat.reduceBEq, Nat.reduceBNe, Nat.reduceLT, Nat.reduceGT, Int.reduceGT, Int.reduceMul, Int.reduceAdd, Int.reduceSub, Nat.reduceAdd, Nat.reduceMul, Nat.reduceLeDiff, Nat.reduceEqDiff, Nat.reduceSub, Int.reduceNeg, Int.reduceToNat, Int.reduceLT, Int.reduceLE, Int.reduceEq, Int.cast_ofNat_Int, decide_true, decide_false, Bool.not_true, Bool.not_false, Bool.and_self, reduceIte, reduceCtorEq]; with_reducible rfl)); (case h2 => exact r1_t rfl rfl); (case he => simp))
                 | ((first | apply post_r | apply post_a); (case h1 => first | exact r1_t rfl rfl | (simp only [go_sem, Nat.reduceBEq, Nat.reduceBNe, Nat.reduceLT, Nat.reduceGT, Int.reduceGT, Int.reduceMul, Int.reduceAdd, Int.reduceSub, Nat.reduceAdd, Nat.reduceMul, Nat.reduceLeDiff, Nat.reduceEqDiff, Nat.reduceSub, Int.reduceNeg, Int.reduceToNat, Int.reduceLT, Int.reduceLE, Int.reduceEq, Int.cast_ofNat_Int, decide_true, decide_false, Bool.not_true, Bool.not_false, Bool.and_self, reduceIte, reduceCtorEq, hc, hix, hz1, hz2, q1, q2, q3, q4]; with_reducible rfl)); (case he => simp))
                 | (refine hK _ ?_; clear hK)
                 | (clear hK; refine hK _ ?_; clear hK)
                 | (clear hK; clear hK; refine hK _ ?_; clear hK)
                 | (clear hK; clear hK; clear hK; refine hK _ ?_; clear hK)
                 | (clear hK; clear hK; clear hK; clear hK; refine hK _ ?_; clear hK)
                 | fail
                all_goals (repeat (clear hK))
                all_goals first | done | rfl
              · have q1 : decide ((n : Int) = 9223372036854775808) = false := by simp; omega
                rw [if_pos (by omega)] at hE
                have q2 : IntKind.i64.wrap (n : Int) = (n : Int) := by rw [IntWalk.i64_in _ (by omega)]
                have q3 : IntKind.i64.wrap (0 - (n : Int)) = -(n : Int) := by rw [IntWalk.i64_in _ (by omega)]; omega
                have q4 := q1
                rw [hE] at hres
                subst hres
                repeat' first
                 | with_reducible first | refine thenQ_n ?_ | refine thenQ_r ?_ | refine thenQ_e ?_ | refine blockQ_n ?_ | refine blockQ_r ?_ | refine blockQ_e ?_ | refine tri_seq fun K hK => ?_ | refine tri_skip ?_ | refine tri_ret ?_ | refine tri_exit ?_ | refine tri_block ?_ | refine tri_region ?_ | refine sq_nil ?_
                 | refine blockQ_o ?_ (by rfl)
                 | ((with_reducible apply s_w); (case hw => exact xWT); first | ((with_reducible apply sg_q); (case hd => exact rfl); (case hn => exact rfl); (case he => (first | exact xE0 | ((with_reducible apply e_bi); (case hx => exact xDK); (case hy => exact xDK); (case hs => exact rfl); (case h => (simp only [binI, Int.reduceAdd, Int.reduceSub, Int.reduceMul, Int.reduceLT, Int.reduceLE, Int.reduceGT, Int.reduceEq, Int.reduceNeg, decide_true, decide_false, Bool.not_true, Bool.not_false, hc, hix, hz1, hz2, q1, q2, q3, q4]; with_reducible rfl))) | ((with_reducible apply e_ix); (case hx => exact xDK); (case hi => exact xDK); (case ht => exact xTY); (case hz => exact rfl); (case he => (simp only [hc, hix, hz1, hz2, q1, q2, q3, q4]; with_reducible rfl)); (case hc => exact xGS)) | ((with_reducible apply e_ln); (case hx => exact xDK); (case ht => exact xTY); (case hn => (first | (simp only [List.length_map, List.length_cons, List.length_nil, hc, hix, hz1, hz2, q1, q2, q3, q4]; with_reducible rfl) | rfl))) | ((with_reducible apply e_nt); (case hx => exact xDK); (case h => (first | (simp only [Bool.not_true, Bool.not_false, hc, hix, hz1, hz2, q1, q2, q3, q4]; with_reducible rfl) | rfl)))))) | (((with_reducible apply sg_nil); (case hn => exact rfl); (case hx => exact xDK); (case ht => exact xTY); intro β hβ)) | (((with_reducible apply sg_bx); (case hn => exact rfl); (case hv => exact xLT); (case hc => exact xGS); (case hk => exact rfl))) | (((with_reducible apply sg_al); (case hn => exact rfl); (case hz => exact xTY); (case hc => exact xGS); (case hk => exact rfl))) | (((with_reducible apply sg_st); (case hx => exact xLK); (case hv => exact xLT); (case hc => exact xGS); (case hb => exact rfl); (case ht => exact xTY); (case hz => exact rfl); (case hs => exact xGS))) | (((with_reducible apply sg_e); (case hc => (intros; simp)); (case hs => (simp only [go_sem, Nat.reduceBEq, Nat.reduceBNe, Nat.reduceLT, Nat.reduceGT, Int.reduceGT, Int.reduceMul, Int.reduceAdd, Int.reduceSub, Nat.reduceAdd, Nat.reduceMul, Nat.reduceLeDiff, Nat.reduceEqDiff, Nat.reduceSub, Int.reduceNeg, Int.reduceToNat, Int.reduceLT, Int.reduceLE, Int.reduceEq, Int.cast_ofNat_Int, decide_true, decide_false, Bool.not_true, Bool.not_false, Bool.and_self, reduceIte, reduceCtorEq, hc, hix, hz1, hz2, q1, q2, q3, q4]; with_reducible rfl)))))
                 | ((with_reducible apply s_n); (case hw => exact xWF); (case hd => exact rfl); (case hn => exact rfl))
                 | ((with_reducible apply qs_ct); (case hc => exact xLK); (case he => exact xHB))
                 | ((with_reducible apply qs_cf); (case hc => exact xLK); (case he => exact xHB))
                 | ((with_reducible apply qs_cond); (case hc => exact xLK); (case hu => exact xUK); all_goals (intro hb))
                 | ((with_reducible apply s_if); (case hg => exact rfl); (case hd => exact rfl); (case he => exact rfl); (case hu => exact xUK); all_goals (intro hb))
                 | (apply post_2; (case h1 => first | exact r1_t rfl rfl | exact r1_a rfl | (simp only [go_sem, Nat.reduceBEq, Nat.reduceBNe, Nat.reduceLT, Nat.reduceGT, Int.reduceGT, Int.reduceMul, Int.reduceAdd, Int.reduceSub, Nat.reduceAdd, Nat.reduceMul, Nat.reduceLeDiff, Nat.reduceEqDiff, Nat.reduceSub, Int.reduceNeg, Int.reduceToNat, Int.reduceLT, Int.reduceLE, Int.reduceEq, Int.cast_ofNat_Int, decide_true, decide_false, Bool.not_true, Bool.not_false, Bool.and_self, reduceIte, reduceCtorEq]; with_reducible rfl)); (case h2 => exact r1_t rfl rfl); (case he => simp))
                 | ((first | apply post_r | apply post_a); (case h1 => first | exact r1_t rfl rfl | (simp only [go_sem, Nat.reduceBEq, Nat.reduceBNe, Nat.reduceLT, Nat.reduceGT, Int.reduceGT, Int.reduceMul, Int.reduceAdd, Int.reduceSub, Nat.reduceAdd, Nat.reduceMul, Nat.reduceLeDiff, Nat.reduceEqDiff, Nat.reduceSub, Int.reduceNeg, Int.reduceToNat, Int.reduceLT, Int.reduceLE, Int.reduceEq, Int.cast_ofNat_Int, decide_true, decide_false, Bool.not_true, Bool.not_false, Bool.and_self, reduceIte, reduceCtorEq, hc, hix, hz1, hz2, q1, q2, q3, q4]; with_reducible rfl)); (case he => simp))
                 | (refine hK _ ?_; clear hK)
                 | (clear hK; refine hK _ ?_; clear hK)
                 | (clear hK; clear hK; refine hK _ ?_; clear hK)
                 | (clear hK; clear hK; clear hK; refine hK _ ?_; clear hK)
                 | (clear hK; clear hK; clear hK; clear hK; refine hK _ ?_; clear hK)
                 | fail
                all_goals (repeat (clear hK))
                all_goals first | done | rfl
            · rw [if_neg (by omega)] at hE
              rw [hE] at hres
              subst hres
              have q1 := hz1
              have q2 := hz1
              have q3 := hz1
              have q4 := hz1
              repeat' first
               | with_reducible first | refine thenQ_n ?_ | refine thenQ_r ?_ | refine thenQ_e ?_ | refine blockQ_n ?_ | refine blockQ_r ?_ | refine blockQ_e ?_ | refine tri_seq fun K hK => ?_ | refine tri_skip ?_ | refine tri_ret ?_ | refine tri_exit ?_ | refine tri_block ?_ | refine tri_region ?_ | refine sq_nil ?_
               | refine blockQ_o ?_ (by rfl)
               | ((with_reducible apply s_w); (case hw => exact xWT); first | ((with_reducible apply sg_q); (case hd => exact rfl); (case hn => exact rfl); (case he => (first | exact xE0 | ((with_reducible apply e_bi); (case hx => exact xDK); (case hy => exact xDK); (case hs => exact rfl); (case h => (simp only [binI, Int.reduceAdd, Int.reduceSub, Int.reduceMul, Int.reduceLT, Int.reduceLE, Int.reduceGT, Int.reduceEq, Int.reduceNeg, decide_true, decide_false, Bool.not_true, Bool.not_false, hc, hix, hz1, hz2, q1, q2, q3, q4]; with_reducible rfl))) | ((with_reducible apply e_ix); (case hx => exact xDK); (case hi => exact xDK); (case ht => exact xTY); (case hz => exact rfl); (case he => (simp only [hc, hix, hz1, hz2, q1, q2, q3, q4]; with_reducible rfl)); (case hc => exact xGS)) | ((with_reducible apply e_ln); (case hx => exact xDK); (case ht => exact xTY); (case hn => (first | (simp only [List.length_map, List.length_cons, List.length_nil, hc, hix, hz1, hz2, q1, q2, q3, q4]; with_reducible rfl) | rfl))) | ((with_reducible apply e_nt); (case hx => exact xDK); (case h => (first | (simp only [Bool.not_true, Bool.not_false, hc, hix, hz1, hz2, q1, q2, q3, q4]; with_reducible rfl) | rfl)))))) | (((with_reducible apply sg_nil); (case hn => exact rfl); (case hx => exact xDK); (case ht => exact xTY); intro β hβ)) | (((with_reducible apply sg_bx); (case hn => exact rfl); (case hv => exact xLT); (case hc => exact xGS); (case hk => exact rfl))) | (((with_reducible apply sg_al); (case hn => exact rfl); (case hz => exact xTY); (case hc => exact xGS); (case hk => exact rfl))) | (((with_reducible apply sg_st); (case hx => exact xLK); (case hv => exact xLT); (case hc => exact xGS); (case hb => exact rfl); (case ht => exact xTY); (case hz => exact rfl); (case hs => exact xGS))) | (((with_reducible apply sg_e); (case hc => (intros; simp)); (case hs => (simp only [go_sem, Nat.reduceBEq, Nat.reduceBNe, Nat.reduceLT, Nat.reduceGT, Int.reduceGT, Int.reduceMul, Int.reduceAdd, Int.reduceSub, Nat.reduceAdd, Nat.reduceMul, Nat.reduceLeDiff, Nat.reduceEqDiff, Nat.reduceSub, Int.reduceNeg, Int.reduceToNat, Int.reduceLT, Int.reduceLE, Int.reduceEq, Int.cast_ofNat_Int, decide_true, decide_false, Bool.not_true, Bool.not_false, Bool.and_self, reduceIte, reduceCtorEq, hc, hix, hz1, hz2, q1, q2, q3, q4]; with_reducible rfl)))))
               | ((with_reducible apply s_n); (case hw => exact xWF); (case hd => exact rfl); (case hn => exact rfl))
               | ((with_reducible apply qs_ct); (case hc => exact xLK); (case he => exact xHB))
               | ((with_reducible apply qs_cf); (case hc => exact xLK); (case he => exact xHB))
               | ((with_reducible apply qs_cond); (case hc => exact xLK); (case hu => exact xUK); all_goals (intro hb))
               | ((with_reducible apply s_if); (case hg => exact rfl); (case hd => exact rfl); (case he => exact rfl); (case hu => exact xUK); all_goals (intro hb))
               | (apply post_2; (case h1 => first | exact r1_t rfl rfl | exact r1_a rfl | (simp only [go_sem, Nat.reduceBEq, Nat.reduceBNe, Nat.reduceLT, Nat.reduceGT, Int.reduceGT, Int.reduceMul, Int.reduceAdd, Int.reduceSub, Nat.reduceAdd, Nat.reduceMul, Nat.reduceLeDiff, Nat.reduceEqDiff, Nat.reduceSub, Int.reduceNeg, Int.reduceToNat, Int.reduceLT, Int.reduceLE, Int.reduceEq, Int.cast_ofNat_Int, decide_true, decide_false, Bool.not_true, Bool.not_false, Bool.and_self, reduceIte, reduceCtorEq]; with_reducible rfl)); (case h2 => exact r1_t rfl rfl); (case he => simp))
               | ((first | apply post_r | apply post_a); (case h1 => first | exact r1_t rfl rfl | (simp only [go_sem, Nat.reduceBEq, Nat.reduceBNe, Nat.reduceLT, Nat.reduceGT, Int.reduceGT, Int.reduceMul, Int.reduceAdd, Int.reduceSub, Nat.reduceAdd, Nat.reduceMul, Nat.reduceLeDiff, Nat.reduceEqDiff, Nat.reduceSub, Int.reduceNeg, Int.reduceToNat, Int.reduceLT, Int.reduceLE, Int.reduceEq, Int.cast_ofNat_Int, decide_true, decide_false, Bool.not_true, Bool.not_false, Bool.and_self, reduceIte, reduceCtorEq, hc, hix, hz1, hz2, q1, q2, q3, q4]; with_reducible rfl)); (case he => simp))
               | (refine hK _ ?_; clear hK)
               | (clear hK; refine hK _ ?_; clear hK)
               | (clear hK; clear hK; refine hK _ ?_; clear hK)
               | (clear hK; clear hK; clear hK; refine hK _ ?_; clear hK)
               | (clear hK; clear hK; clear hK; clear hK; refine hK _ ?_; clear hK)
               | fail
              all_goals (repeat (clear hK))
              all_goals first | done | rfl
          · skip
            have hE := par_p h0 hdg hmm
            rw [hbody] at hE
            rcases hgn with ⟨hn, ⟨rfl, hu⟩ | ⟨rfl, hu⟩⟩
            · rw [hu] at hE
              by_cases c1 : n = 9223372036854775808
              · have q1 : decide ((n : Int) = 9223372036854775808) = true := by simp; omega
                rw [if_neg (by omega)] at hE
                rw [hE] at hres
                subst hres
                have q2 := q1
                have q3 := q1
                have q4 := q1
                repeat' first
                 | with_reducible first | refine thenQ_n ?_ | refine thenQ_r ?_ | refine thenQ_e ?_ | refine blockQ_n ?_ | refine blockQ_r ?_ | refine blockQ_e ?_ | refine tri_seq fun K hK => ?_ | refine tri_skip ?_ | refine tri_ret ?_ | refine tri_exit ?_ | refine tri_block ?_ | refine tri_region ?_ | refine sq_nil ?_
                 | refine blockQ_o ?_ (by rfl)
                 | ((with_reducible apply s_w); (case hw => exact xWT); first | ((with_reducible apply sg_q); (case hd => exact rfl); (case hn => exact rfl); (case he => (first | exact xE0 | ((with_reducible apply e_bi); (case hx => exact xDK); (case hy => exact xDK); (case hs => exact rfl); (case h => (simp only [binI, Int.reduceAdd, Int.reduceSub, Int.reduceMul, Int.reduceLT, Int.reduceLE, Int.reduceGT, Int.reduceEq, Int.reduceNeg, decide_true, decide_false, Bool.not_true, Bool.not_false, hc, hix, hz1, hz2, q1, q2, q3, q4]; with_reducible rfl))) | ((with_reducible apply e_ix); (case hx => exact xDK); (case hi => exact xDK); (case ht => exact xTY); (case hz => exact rfl); (case he => (simp only [hc, hix, hz1, hz2, q1, q2, q3, q4]; with_reducible rfl)); (case hc => exact xGS)) | ((with_reducible apply e_ln); (case hx => exact xDK); (case ht => exact xTY); (case hn => (first | (simp only [List.length_map, List.length_cons, List.length_nil, hc, hix, hz1, hz2, q1, q2, q3, q4]; with_reducible rfl) | rfl))) | ((with_reducible apply e_nt); (case hx => exact xDK); (case h => (first | (simp only [Bool.not_true, Bool.not_false, hc, hix, hz1, hz2, q1, q2, q3, q4]; with_reducible rfl) | rfl)))))) | (((with_reducible apply sg_nil); (case hn => exact rfl); (case hx => exact xDK); (case ht => exact xTY); intro β hβ)) | (((with_reducible apply sg_bx); (case hn => exact rfl); (case hv => exact xLT); (case hc => exact xGS); (case hk => exact rfl))) | (((with_reducible apply sg_al); (case hn => exact rfl); (case hz => exact xTY); (case hc => exact xGS); (case hk => exact rfl))) | (((with_reducible apply sg_st); (case hx => exact xLK); (case hv => exact xLT); (case hc => exact xGS); (case hb => exact rfl); (case ht => exact xTY); (case hz => exact rfl); (case hs => exact xGS))) | (((with_reducible apply sg_e); (case hc => (intros; simp)); (case hs => (simp only [go_sem, Nat.reduceBEq, Nat.reduceBNe, Nat.reduceLT, Nat.reduceGT, Int.reduceGT, Int.reduceMul, Int.reduceAdd, Int.reduceSub, Nat.reduceAdd, Nat.reduceMul, Nat.reduceLeDiff, Nat.reduceEqDiff, Nat.reduceSub, Int.reduceNeg, Int.reduceToNat, Int.reduceLT, Int.reduceLE, Int.reduceEq, Int.cast_ofNat_Int, decide_true, decide_false, Bool.not_true, Bool.not_false, Bool.and_self, reduceIte, reduceCtorEq, hc, hix, hz1, hz2, q1, q2, q3, q4]; with_reducible rfl)))))
                 | ((with_reducible apply s_n); (case hw => exact xWF); (case hd => exact rfl); (case hn => exact rfl))
                 | ((with_reducible apply qs_ct); (case hc => exact xLK); (case he => exact xHB))
                 | ((with_reducible apply qs_cf); (case hc => exact xLK); (case he => exact xHB))
                 | ((with_reducible apply qs_cond); (case hc => exact xLK); (case hu => exact xUK); all_goals (intro hb))
                 | ((with_reducible apply s_if); (case hg => exact rfl); (case hd => exact rfl); (case he => exact rfl); (case hu => exact xUK); all_goals (intro hb))
                 | (apply post_2; (case h1 => first | exact r1_t rfl rfl | exact r1_a rfl | (simp only [go_sem, Nat.reduceBEq, Nat.reduceBNe, Nat.reduceLT, Nat.reduceGT, Int.reduceGT, Int.reduceMul, Int.reduceAdd, Int.reduceSub, Nat.reduceAdd, Nat.reduceMul, Nat.reduceLeDiff, Nat.reduceEqDiff, Nat.reduceSub, Int.reduceNeg, Int.reduceToNat, Int.reduceLT, Int.reduceLE, Int.reduceEq, Int.cast_ofNat_Int, decide_true, decide_false, Bool.not_true, Bool.not_false, Bool.and_self, reduceIte, reduceCtorEq]; with_reducible rfl)); (case h2 => exact r1_t rfl rfl); (case he => simp))
                 | ((first | apply post_r | apply post_a); (case h1 => first | exact r1_t rfl rfl | (simp only [go_sem, Nat.reduceBEq, Nat.reduceBNe, Nat.reduceLT, Nat.reduceGT, Int.reduceGT, Int.reduceMul, Int.reduceAdd, Int.reduceSub, Nat.reduceAdd, Nat.reduceMul, Nat.reduceLeDiff, Nat.reduceEqDiff, Nat.reduceSub, Int.reduceNeg, Int.reduceToNat, Int.reduceLT, Int.reduceLE, Int.reduceEq, Int.cast_ofNat_Int, decide_true, decide_false, Bool.not_true, Bool.not_false, Bool.and_self, reduceIte, reduceCtorEq, hc, hix, hz1, hz2, q1, q2, q3, q4]; with_reducible rfl)); (case he => simp))
                 | (refine hK _ ?_; clear hK)
                 | (clear hK; refine hK _ ?_; clear hK)
                 | (clear hK; clear hK; refine hK _ ?_; clear hK)
                 | (clear hK; clear hK; clear hK; refine hK _ ?_; clear hK)
                 | (clear hK; clear hK; clear hK; clear hK; refine hK _ ?_; clear hK)
                 | fail
                all_goals (repeat (clear hK))
                all_goals first | done | rfl
              · have q1 : decide ((n : Int) = 9223372036854775808) = false := by simp; omega
                rw [if_pos (by omega)] at hE
                have q2 : IntKind.i64.wrap (n : Int) = (n : Int) := by rw [IntWalk.i64_in _ (by omega)]
                have q3 : IntKind.i64.wrap (0 - (n : Int)) = -(n : Int) := by rw [IntWalk.i64_in _ (by omega)]; omega
                have q4 := q1
                rw [hE] at hres
                subst hres
                repeat' first
                 | with_reducible first | refine thenQ_n ?_ | refine thenQ_r ?_ | refine thenQ_e ?_ | refine blockQ_n ?_ | refine blockQ_r ?_ | refine blockQ_e ?_ | refine tri_seq fun K hK => ?_ | refine tri_skip ?_ | refine tri_ret ?_ | refine tri_exit ?_ | refine tri_block ?_ | refine tri_region ?_ | refine sq_nil ?_
                 | refine blockQ_o ?_ (by rfl)
                 | ((with_reducible apply s_w); (case hw => exact xWT); first | ((with_reducible apply sg_q); (case hd => exact rfl); (case hn => exact rfl); (case he => (first | exact xE0 | ((with_reducible apply e_bi); (case hx => exact xDK); (case hy => exact xDK); (case hs => exact rfl); (case h => (simp only [binI, Int.reduceAdd, Int.reduceSub, Int.reduceMul, Int.reduceLT, Int.reduceLE, Int.reduceGT, Int.reduceEq, Int.reduceNeg, decide_true, decide_false, Bool.not_true, Bool.not_false, hc, hix, hz1, hz2, q1, q2, q3, q4]; with_reducible rfl))) | ((with_reducible apply e_ix); (case hx => exact xDK); (case hi => exact xDK); (case ht => exact xTY); (case hz => exact rfl); (case he => (simp only [hc, hix, hz1, hz2, q1, q2, q3, q4]; with_reducible rfl)); (case hc => exact xGS)) | ((with_reducible apply e_ln); (case hx => exact xDK); (case ht => exact xTY); (case hn => (first | (simp only [List.length_map, List.length_cons, List.length_nil, hc, hix, hz1, hz2, q1, q2, q3, q4]; with_reducible rfl) | rfl))) | ((with_reducible apply e_nt); (case hx => exact xDK); (case h => (first | (simp only [Bool.not_true, Bool.not_false, hc, hix, hz1, hz2, q1, q2, q3, q4]; with_reducible rfl) | rfl)))))) | (((with_reducible apply sg_nil); (case hn => exact rfl); (case hx => exact xDK); (case ht => exact xTY); intro β hβ)) | (((with_reducible apply sg_bx); (case hn => exact rfl); (case hv => exact xLT); (case hc => exact xGS); (case hk => exact rfl))) | (((with_reducible apply sg_al); (case hn => exact rfl); (case hz => exact xTY); (case hc => exact xGS); (case hk => exact rfl))) | (((with_reducible apply sg_st); (case hx => exact xLK); (case hv => exact xLT); (case hc => exact xGS); (case hb => exact rfl); (case ht => exact xTY); (case hz => exact rfl); (case hs => exact xGS))) | (((with_reducible apply sg_e); (case hc => (intros; simp)); (case hs => (simp only [go_sem, Nat.reduceBEq, Nat.reduceBNe, Nat.reduceLT, Nat.reduceGT, Int.reduceGT, Int.reduceMul, Int.reduceAdd, Int.reduceSub, Nat.reduceAdd, Nat.reduceMul, Nat.reduceLeDiff, Nat.reduceEqDiff, Nat.reduceSub, Int.reduceNeg, Int.reduceToNat, Int.reduceLT, Int.reduceLE, Int.reduceEq, Int.cast_ofNat_Int, decide_true, decide_false, Bool.not_true, Bool.not_false, Bool.and_self, reduceIte, reduceCtorEq, hc, hix, hz1, hz2, q1, q2, q3, q4]; with_reducible rfl)))))
                 | ((with_reducible apply s_n); (case hw => exact xWF); (case hd => exact rfl); (case hn => exact rfl))
                 | ((with_reducible apply qs_ct); (case hc => exact xLK); (case he => exact xHB))
                 | ((with_reducible apply qs_cf); (case hc => exact xLK); (case he => exact xHB))
                 | ((with_reducible apply qs_cond); (case hc => exact xLK); (case hu => exact xUK); all_goals (intro hb))
                 | ((with_reducible apply s_if); (case hg => exact rfl); (case hd => exact rfl); (case he => exact rfl); (case hu => exact xUK); all_goals (intro hb))
                 | (apply post_2; (case h1 => first | exact r1_t rfl rfl | exact r1_a rfl | (simp only [go_sem, Nat.reduceBEq, Nat.reduceBNe, Nat.reduceLT, Nat.reduceGT, Int.reduceGT, Int.reduceMul, Int.reduceAdd, Int.reduceSub, Nat.reduceAdd, Nat.reduceMul, Nat.reduceLeDiff, Nat.reduceEqDiff, Nat.reduceSub, Int.reduceNeg, Int.reduceToNat, Int.reduceLT, Int.reduceLE, Int.reduceEq, Int.cast_ofNat_Int, decide_true, decide_false, Bool.not_true, Bool.not_false, Bool.and_self, reduceIte, reduceCtorEq]; with_reducible rfl)); (case h2 => exact r1_t rfl rfl); (case he => simp))
                 | ((first | apply post_r | apply post_a); (case h1 => first | exact r1_t rfl rfl | (simp only [go_sem, Nat.reduceBEq, Nat.reduceBNe, Nat.reduceLT, Nat.reduceGT, Int.reduceGT, Int.reduceMul, Int.reduceAdd, Int.reduceSub, Nat.reduceAdd, Nat.reduceMul, Nat.reduceLeDiff, Nat.reduceEqDiff, Nat.reduceSub, Int.reduceNeg, Int.reduceToNat, Int.reduceLT, Int.reduceLE, Int.reduceEq, Int.cast_ofNat_Int, decide_true, decide_false, Bool.not_true, Bool.not_false, Bool.and_self, reduceIte, reduceCtorEq, hc, hix, hz1, hz2, q1, q2, q3, q4]; with_reducible rfl)); (case he => simp))
                 | (refine hK _ ?_; clear hK)
                 | (clear hK; refine hK _ ?_; clear hK)
                 | (clear hK; clear hK; refine hK _ ?_; clear hK)
                 | (clear hK; clear hK; clear hK; refine hK _ ?_; clear hK)
                 | (clear hK; clear hK; clear hK; clear hK; refine hK _ ?_; clear hK)
                 | fail
                all_goals (repeat (clear hK))
                all_goals first | done | rfl
            · rw [if_neg (by omega)] at hE
              rw [hE] at hres
              subst hres
              have q1 := hz1
              have q2 := hz1
              have q3 := hz1
              have q4 := hz1
              repeat' first
               | with_reducible first | refine thenQ_n ?_ | refine thenQ_r ?_ | refine thenQ_e ?_ | refine blockQ_n ?_ | refine blockQ_r ?_ | refine blockQ_e ?_ | refine tri_seq fun K hK => ?_ | refine tri_skip ?_ | refine tri_ret ?_ | refine tri_exit ?_ | refine tri_block ?_ | refine tri_region ?_ | refine sq_nil ?_
               | refine blockQ_o ?_ (by rfl)
               | ((with_reducible apply s_w); (case hw => exact xWT); first | ((with_reducible apply sg_q); (case hd => exact rfl); (case hn => exact rfl); (case he => (first | exact xE0 | ((with_reducible apply e_bi); (case hx => exact xDK); (case hy => exact xDK); (case hs => exact rfl); (case h => (simp only [binI, Int.reduceAdd, Int.reduceSub, Int.reduceMul, Int.reduceLT, Int.reduceLE, Int.reduceGT, Int.reduceEq, Int.reduceNeg, decide_true, decide_false, Bool.not_true, Bool.not_false, hc, hix, hz1, hz2, q1, q2, q3, q4]; with_reducible rfl))) | ((with_reducible apply e_ix); (case hx => exact xDK); (case hi => exact xDK); (case ht => exact xTY); (case hz => exact rfl); (case he => (simp only [hc, hix, hz1, hz2, q1, q2, q3, q4]; with_reducible rfl)); (case hc => exact xGS)) | ((with_reducible apply e_ln); (case hx => exact xDK); (case ht => exact xTY); (case hn => (first | (simp only [List.length_map, List.length_cons, List.length_nil, hc, hix, hz1, hz2, q1, q2, q3, q4]; with_reducible rfl) | rfl))) | ((with_reducible apply e_nt); (case hx => exact xDK); (case h => (first | (simp only [Bool.not_true, Bool.not_false, hc, hix, hz1, hz2, q1, q2, q3, q4]; with_reducible rfl) | rfl)))))) | (((with_reducible apply sg_nil); (case hn => exact rfl); (case hx => exact xDK); (case ht => exact xTY); intro β hβ)) | (((with_reducible apply sg_bx); (case hn => exact rfl); (case hv => exact xLT); (case hc => exact xGS); (case hk => exact rfl))) | (((with_reducible apply sg_al); (case hn => exact rfl); (case hz => exact xTY); (case hc => exact xGS); (case hk => exact rfl))) | (((with_reducible apply sg_st); (case hx => exact xLK); (case hv => exact xLT); (case hc => exact xGS); (case hb => exact rfl); (case ht => exact xTY); (case hz => exact rfl); (case hs => exact xGS))) | (((with_reducible apply sg_e); (case hc => (intros; simp)); (case hs => (simp only [go_sem, Nat.reduceBEq, Nat.reduceBNe, Nat.reduceLT, Nat.reduceGT, Int.reduceGT, Int.reduceMul, Int.reduceAdd, Int.reduceSub, Nat.reduceAdd, Nat.reduceMul, Nat.reduceLeDiff, Nat.reduceEqDiff, Nat.reduceSub, Int.reduceNeg, Int.reduceToNat, Int.reduceLT, Int.reduceLE, Int.reduceEq, Int.cast_ofNat_Int, decide_true, decide_false, Bool.not_true, Bool.not_false, Bool.and_self, reduceIte, reduceCtorEq, hc, hix, hz1, hz2, q1, q2, q3, q4]; with_reducible rfl)))))
               | ((with_reducible apply s_n); (case hw => exact xWF); (case hd => exact rfl); (case hn => exact rfl))
               | ((with_reducible apply qs_ct); (case hc => exact xLK); (case he => exact xHB))
               | ((with_reducible apply qs_cf); (case hc => exact xLK); (case he => exact xHB))
               | ((with_reducible apply qs_cond); (case hc => exact xLK); (case hu => exact xUK); all_goals (intro hb))
               | ((with_reducible apply s_if); (case hg => exact rfl); (case hd => exact rfl); (case he => exact rfl); (case hu => exact xUK); all_goals (intro hb))
               | (apply post_2; (case h1 => first | exact r1_t rfl rfl | exact r1_a rfl | (simp only [go_sem, Nat.reduceBEq, Nat.reduceBNe, Nat.reduceLT, Nat.reduceGT, Int.reduceGT, Int.reduceMul, Int.reduceAdd, Int.reduceSub, Nat.reduceAdd, Nat.reduceMul, Nat.reduceLeDiff, Nat.reduceEqDiff, Nat.reduceSub, Int.reduceNeg, Int.reduceToNat, Int.reduceLT, Int.reduceLE, Int.reduceEq, Int.cast_ofNat_Int, decide_true, decide_false, Bool.not_true, Bool.not_false, Bool.and_self, reduceIte, reduceCtorEq]; with_reducible rfl)); (case h2 => exact r1_t rfl rfl); (case he => simp))
               | ((first | apply post_r | apply post_a); (case h1 => first | exact r1_t rfl rfl | (simp only [go_sem, Nat.reduceBEq, Nat.reduceBNe, Nat.reduceLT, Nat.reduceGT, Int.reduceGT, Int.reduceMul, Int.reduceAdd, Int.reduceSub, Nat.reduceAdd, Nat.reduceMul, Nat.reduceLeDiff, Nat.reduceEqDiff, Nat.reduceSub, Int.reduceNeg, Int.reduceToNat, Int.reduceLT, Int.reduceLE, Int.reduceEq, Int.cast_ofNat_Int, decide_true, decide_false, Bool.not_true, Bool.not_false, Bool.and_self, reduceIte, reduceCtorEq, hc, hix, hz1, hz2, q1, q2, q3, q4]; with_reducible rfl)); (case he => simp))
               | (refine hK _ ?_; clear hK)
               | (clear hK; refine hK _ ?_; clear hK)
               | (clear hK; clear hK; refine hK _ ?_; clear hK)
               | (clear hK; clear hK; clear hK; refine hK _ ?_; clear hK)
               | (clear hK; clear hK; clear hK; clear hK; refine hK _ ?_; clear hK)
               | fail
              all_goals (repeat (clear hK))
              all_goals first | done | rfl
          · skip
            have hE := par_p h0 hdg hmm
            rw [hbody] at hE
            rcases hgn with ⟨hn, ⟨rfl, hu⟩ | ⟨rfl, hu⟩⟩
            · rw [hu] at hE
              by_cases c1 : n = 9223372036854775808
              · have q1 : decide ((n : Int) = 9223372036854775808) = true := by simp; omega
                rw [if_neg (by omega)] at hE
                rw [hE] at hres
                subst hres
                have q2 := q1
                have q3 := q1
                have q4 := q1
                repeat' first
                 | with_reducible first | refine thenQ_n ?_ | refine thenQ_r ?_ | refine thenQ_e ?_ | refine blockQ_n ?_ | refine blockQ_r ?_ | refine blockQ_e ?_ | refine tri_seq fun K hK => ?_ | refine tri_skip ?_ | refine tri_ret ?_ | refine tri_exit ?_ | refine tri_block ?_ | refine tri_region ?_ | refine sq_nil ?_
                 | refine blockQ_o ?_ (by rfl)
                 | ((with_reducible apply s_w); (case hw => exact xWT); first | ((with_reducible apply sg_q); (case hd => exact rfl); (case hn => exact rfl); (case he => (first | exact xE0 | ((with_reducible apply e_bi); (case hx => exact xDK); (case hy => exact xDK); (case hs => exact rfl); (case h => (simp only [binI, Int.reduceAdd, Int.reduceSub, Int.reduceMul, Int.reduceLT, Int.reduceLE, Int.reduceGT, Int.reduceEq, Int.reduceNeg, decide_true, decide_false, Bool.not_true, Bool.not_false, hc, hix, hz1, hz2, q1, q2, q3, q4]; with_reducible rfl))) | ((with_reducible apply e_ix); (case hx => exact xDK); (case hi => exact xDK); (case ht => exact xTY); (case hz => exact rfl); (case he => (simp only [hc, hix, hz1, hz2, q1, q2, q3, q4]; with_reducible rfl)); (case hc => exact xGS)) | ((with_reducible apply e_ln); (case hx => exact xDK); (case ht => exact xTY); (case hn => (first | (simp only [List.length_map, List.length_cons, List.length_nil, hc, hix, hz1, hz2, q1, q2, q3, q4]; with_reducible rfl) | rfl))) | ((with_reducible apply e_nt); (case hx => exact xDK); (case h => (first | (simp only [Bool.not_true, Bool.not_false, hc, hix, hz1, hz2, q1, q2, q3, q4]; with_reducible rfl) | rfl)))))) | (((with_reducible apply sg_nil); (case hn => exact rfl); (case hx => exact xDK); (case ht => exact xTY); intro β hβ)) | (((with_reducible apply sg_bx); (case hn => exact rfl); (case hv => exact xLT); (case hc => exact xGS); (case hk => exact rfl))) | (((with_reducible apply sg_al); (case hn => exact rfl); (case hz => exact xTY); (case hc => exact xGS); (case hk => exact rfl))) | (((with_reducible apply sg_st); (case hx => exact xLK); (case hv => exact xLT); (case hc => exact xGS); (case hb => exact rfl); (case ht => exact xTY); (case hz => exact rfl); (case hs => exact xGS))) | (((with_reducible apply sg_e); (case hc => (intros; simp)); (case hs => (simp only [go_sem, Nat.reduceBEq, Nat.reduceBNe, Nat.reduceLT, Nat.reduceGT, Int.reduceGT, Int.reduceMul, Int.reduceAdd, Int.reduceSub, Nat.reduceAdd, Nat.reduceMul, Nat.reduceLeDiff, Nat.reduceEqDiff, Nat.reduceSub, Int.reduceNeg, Int.reduceToNat, Int.reduceLT, Int.reduceLE, Int.reduceEq, Int.cast_ofNat_Int, decide_true, decide_false, Bool.not_true, Bool.not_false, Bool.and_self, reduceIte, reduceCtorEq, hc, hix, hz1, hz2, q1, q2, q3, q4]; with_reducible rfl)))))
                 | ((with_reducible apply s_n); (case hw => exact xWF); (case hd => exact rfl); (case hn => exact rfl))
                 | ((with_reducible apply qs_ct); (case hc => exact xLK); (case he => exact xHB))
                 | ((with_reducible apply qs_cf); (case hc => exact xLK); (case he => exact xHB))
                 | ((with_reducible apply qs_cond); (case hc => exact xLK); (case hu => exact xUK); all_goals (intro hb))
                 | ((with_reducible apply s_if); (case hg => exact rfl); (case hd => exact rfl); (case he => exact rfl); (case hu => exact xUK); all_goals (intro hb))
                 | (apply post_2; (case h1 => first | exact r1_t rfl rfl | exact r1_a rfl | (simp only [go_sem, Nat.reduceBEq, Nat.reduceBNe, Nat.reduceLT, Nat.reduceGT, Int.reduceGT, Int.reduceMul, Int.reduceAdd, Int.reduceSub, Nat.reduceAdd, Nat.reduceMul, Nat.reduceLeDiff, Nat.reduceEqDiff, Nat.reduceSub, Int.reduceNeg, Int.reduceToNat, Int.reduceLT, Int.reduceLE, Int.reduceEq, Int.cast_ofNat_Int, decide_true, decide_false, Bool.not_true, Bool.not_false, Bool.and_self, reduceIte, reduceCtorEq]; with_reducible rfl)); (case h2 => exact r1_t rfl rfl); (case he => simp))
                 | ((first | apply post_r | apply post_a); (case h1 => first | exact r1_t rfl rfl | (simp only [go_sem, Nat.reduceBEq, Nat.reduceBNe, Nat.reduceLT, Nat.reduceGT, Int.reduceGT, Int.reduceMul, Int.reduceAdd, Int.reduceSub, Nat.reduceAdd, Nat.reduceMul, Nat.reduceLeDiff, Nat.reduceEqDiff, Nat.reduceSub, Int.reduceNeg, Int.reduceToNat, Int.reduceLT, Int.reduceLE, Int.reduceEq, Int.cast_ofNat_Int, decide_true, decide_false, Bool.not_true, Bool.not_false, Bool.and_self, reduceIte, reduceCtorEq, hc, hix, hz1, hz2, q1, q2, q3, q4]; with_reducible rfl)); (case he => simp))
                 | (refine hK _ ?_; clear hK)
                 | (clear hK; refine hK _ ?_; clear hK)
                 | (clear hK; clear hK; refine hK _ ?_; clear hK)
                 | (clear hK; clear hK; clear hK; refine hK _ ?_; clear hK)
                 | (clear hK; clear hK; clear hK; clear hK; refine hK _ ?_; clear hK)
                 | fail
                all_goals (repeat (clear hK))
                all_goals first | done | rfl
              · have q1 : decide ((n : Int) = 9223372036854775808) = false := by simp; omega
                rw [if_pos (by omega)] at hE
                have q2 : IntKind.i64.wrap (n : Int) = (n : Int) := by rw [IntWalk.i64_in _ (by omega)]
                have q3 : IntKind.i64.wrap (0 - (n : Int)) = -(n : Int) := by rw [IntWalk.i64_in _ (by omega)]; omega
                have q4 := q1
                rw [hE] at hres
                subst hres
                repeat' first
                 | with_reducible first | refine thenQ_n ?_ | refine thenQ_r ?_ | refine thenQ_e ?_ | refine blockQ_n ?_ | refine blockQ_r ?_ | refine blockQ_e ?_ | refine tri_seq fun K hK => ?_ | refine tri_skip ?_ | refine tri_ret ?_ | refine tri_exit ?_ | refine tri_block ?_ | refine tri_region ?_ | refine sq_nil ?_
                 | refine blockQ_o ?_ (by rfl)
                 | ((with_reducible apply s_w); (case hw => exact xWT); first | ((with_reducible apply sg_q); (case hd => exact rfl); (case hn => exact rfl); (case he => (first | exact xE0 | ((with_reducible apply e_bi); (case hx => exact xDK); (case hy => exact xDK); (case hs => exact rfl); (case h => (simp only [binI, Int.reduceAdd, Int.reduceSub, Int.reduceMul, Int.reduceLT, Int.reduceLE, Int.reduceGT, Int.reduceEq, Int.reduceNeg, decide_true, decide_false, Bool.not_true, Bool.not_false, hc, hix, hz1, hz2, q1, q2, q3, q4]; with_reducible rfl))) | ((with_reducible apply e_ix); (case hx => exact xDK); (case hi => exact xDK); (case ht => exact xTY); (case hz => exact rfl); (case he => (simp only [hc, hix, hz1, hz2, q1, q2, q3, q4]; with_reducible rfl)); (case hc => exact xGS)) | ((with_reducible apply e_ln); (case hx => exact xDK); (case ht => exact xTY); (case hn => (first | (simp only [List.length_map, List.length_cons, List.length_nil, hc, hix, hz1, hz2, q1, q2, q3, q4]; with_reducible rfl) | rfl))) | ((with_reducible apply e_nt); (case hx => exact xDK); (case h => (first | (simp only [Bool.not_true, Bool.not_false, hc, hix, hz1, hz2, q1, q2, q3, q4]; with_reducible rfl) | rfl)))))) | (((with_reducible apply sg_nil); (case hn => exact rfl); (case hx => exact xDK); (case ht => exact xTY); intro β hβ)) | (((with_reducible apply sg_bx); (case hn => exact rfl); (case hv => exact xLT); (case hc => exact xGS); (case hk => exact rfl))) | (((with_reducible apply sg_al); (case hn => exact rfl); (case hz => exact xTY); (case hc => exact xGS); (case hk => exact rfl))) | (((with_reducible apply sg_st); (case hx => exact xLK); (case hv => exact xLT); (case hc => exact xGS); (case hb => exact rfl); (case ht => exact xTY); (case hz => exact rfl); (case hs => exact xGS))) | (((with_reducible apply sg_e); (case hc => (intros; simp)); (case hs => (simp only [go_sem, Nat.reduceBEq, Nat.reduceBNe, Nat.reduceLT, Nat.reduceGT, Int.reduceGT, Int.reduceMul, Int.reduceAdd, Int.reduceSub, Nat.reduceAdd, Nat.reduceMul, Nat.reduceLeDiff, Nat.reduceEqDiff, Nat.reduceSub, Int.reduceNeg, Int.reduceToNat, Int.reduceLT, Int.reduceLE, Int.reduceEq, Int.cast_ofNat_Int, decide_true, decide_false, Bool.not_true, Bool.not_false, Bool.and_self, reduceIte, reduceCtorEq, hc, hix, hz1, hz2, q1, q2, q3, q4]; with_reducible rfl)))))
                 | ((with_reducible apply s_n); (case hw => exact xWF); (case hd => exact rfl); (case hn => exact rfl))
                 | ((with_reducible apply qs_ct); (case hc => exact xLK); (case he => exact xHB))
                 | ((with_reducible apply qs_cf); (case hc => exact xLK); (case he => exact xHB))
                 | ((with_reducible apply qs_cond); (case hc => exact xLK); (case hu => exact xUK); all_goals (intro hb))
                 | ((with_reducible apply s_if); (case hg => exact rfl); (case hd => exact rfl); (case he => exact rfl); (case hu => exact xUK); all_goals (intro hb))
                 | (apply post_2; (case h1 => first | exact r1_t rfl rfl | exact r1_a rfl | (simp only [go_sem, Nat.reduceBEq, Nat.reduceBNe, Nat.reduceLT, Nat.reduceGT, Int.reduceGT, Int.reduceMul, Int.reduceAdd, Int.reduceSub, Nat.reduceAdd, Nat.reduceMul, Nat.reduceLeDiff, Nat.reduceEqDiff, Nat.reduceSub, Int.reduceNeg, Int.reduceToNat, Int.reduceLT, Int.reduceLE, Int.reduceEq, Int.cast_ofNat_Int, decide_true, decide_false, Bool.not_true, Bool.not_false, Bool.and_self, reduceIte, reduceCtorEq]; with_reducible rfl)); (case h2 => exact r1_t rfl rfl); (case he => simp))
                 | ((first | apply post_r | apply post_a); (case h1 => first | exact r1_t rfl rfl | (simp only [go_sem, Nat.reduceBEq, Nat.reduceBNe, Nat.reduceLT, Nat.reduceGT, Int.reduceGT, Int.reduceMul, Int.reduceAdd, Int.reduceSub, Nat.reduceAdd, Nat.reduceMul, Nat.reduceLeDiff, Nat.reduceEqDiff, Nat.reduceSub, Int.reduceNeg, Int.reduceToNat, Int.reduceLT, Int.reduceLE, Int.reduceEq, Int.cast_ofNat_Int, decide_true, decide_false, Bool.not_true, Bool.not_false, Bool.and_self, reduceIte, reduceCtorEq, hc, hix, hz1, hz2, q1, q2, q3, q4]; with_reducible rfl)); (case he => simp))
                 | (refine hK _ ?_; clear hK)
                 | (clear hK; refine hK _ ?_; clear hK)
                 | (clear hK; clear hK; refine hK _ ?_; clear hK)
                 | (clear hK; clear hK; clear hK; refine hK _ ?_; clear hK)
                 | (clear hK; clear hK; clear hK; clear hK; refine hK _ ?_; clear hK)
                 | fail
                all_goals (repeat (clear hK))
                all_goals first | done | rfl
            · rw [if_neg (by omega)] at hE
              rw [hE] at hres
              subst hres
              have q1 := hz1
              have q2 := hz1
              have q3 := hz1
              have q4 := hz1
              repeat' first
               | with_reducible first | refine thenQ_n ?_ | refine thenQ_r ?_ | refine thenQ_e ?_ | refine blockQ_n ?_ | refine blockQ_r ?_ | refine blockQ_e ?_ | refine tri_seq fun K hK => ?_ | refine tri_skip ?_ | refine tri_ret ?_ | refine tri_exit ?_ | refine tri_block ?_ | refine tri_region ?_ | refine sq_nil ?_
               | refine blockQ_o ?_ (by rfl)
               | ((with_reducible apply s_w); (case hw => exact xWT); first | ((with_reducible apply sg_q); (case hd => exact rfl); (case hn => exact rfl); (case he => (first | exact xE0 | ((with_reducible apply e_bi); (case hx => exact xDK); (case hy => exact xDK); (case hs => exact rfl); (case h => (simp only [binI, Int.reduceAdd, Int.reduceSub, Int.reduceMul, Int.reduceLT, Int.reduceLE, Int.reduceGT, Int.reduceEq, Int.reduceNeg, decide_true, decide_false, Bool.not_true, Bool.not_false, hc, hix, hz1, hz2, q1, q2, q3, q4]; with_reducible rfl))) | ((with_reducible apply e_ix); (case hx => exact xDK); (case hi => exact xDK); (case ht => exact xTY); (case hz => exact rfl); (case he => (simp only [hc, hix, hz1, hz2, q1, q2, q3, q4]; with_reducible rfl)); (case hc => exact xGS)) | ((with_reducible apply e_ln); (case hx => exact xDK); (case ht => exact xTY); (case hn => (first | (simp only [List.length_map, List.length_cons, List.length_nil, hc, hix, hz1, hz2, q1, q2, q3, q4]; with_reducible rfl) | rfl))) | ((with_reducible apply e_nt); (case hx => exact xDK); (case h => (first | (simp only [Bool.not_true, Bool.not_false, hc, hix, hz1, hz2, q1, q2, q3, q4]; with_reducible rfl) | rfl)))))) | (((with_reducible apply sg_nil); (case hn => exact rfl); (case hx => exact xDK); (case ht => exact xTY); intro β hβ)) | (((with_reducible apply sg_bx); (case hn => exact rfl); (case hv => exact xLT); (case hc => exact xGS); (case hk => exact rfl))) | (((with_reducible apply sg_al); (case hn => exact rfl); (case hz => exact xTY); (case hc => exact xGS); (case hk => exact rfl))) | (((with_reducible apply sg_st); (case hx => exact xLK); (case hv => exact xLT); (case hc => exact xGS); (case hb => exact rfl); (case ht => exact xTY); (case hz => exact rfl); (case hs => exact xGS))) | (((with_reducible apply sg_e); (case hc => (intros; simp)); (case hs => (simp only [go_sem, Nat.reduceBEq, Nat.reduceBNe, Nat.reduceLT, Nat.reduceGT, Int.reduceGT, Int.reduceMul, Int.reduceAdd, Int.reduceSub, Nat.reduceAdd, Nat.reduceMul, Nat.reduceLeDiff, Nat.reduceEqDiff, Nat.reduceSub, Int.reduceNeg, Int.reduceToNat, Int.reduceLT, Int.reduceLE, Int.reduceEq, Int.cast_ofNat_Int, decide_true, decide_false, Bool.not_true, Bool.not_false, Bool.and_self, reduceIte, reduceCtorEq, hc, hix, hz1, hz2, q1, q2, q3, q4]; with_reducible rfl)))))
               | ((with_reducible apply s_n); (case hw => exact xWF); (case hd => exact rfl); (case hn => exact rfl))
               | ((with_reducible apply qs_ct); (case hc => exact xLK); (case he => exact xHB))
               | ((with_reducible apply qs_cf); (case hc => exact xLK); (case he => exact xHB))
               | ((with_reducible apply qs_cond); (case hc => exact xLK); (case hu => exact xUK); all_goals (intro hb))
               | ((with_reducible apply s_if); (case hg => exact rfl); (case hd => exact rfl); (case he => exact rfl); (case hu => exact xUK); all_goals (intro hb))
               | (apply post_2; (case h1 => first | exact r1_t rfl rfl | exact r1_a rfl | (simp only [go_sem, Nat.reduceBEq, Nat.reduceBNe, Nat.reduceLT, Nat.reduceGT, Int.reduceGT, Int.reduceMul, Int.reduceAdd, Int.reduceSub, Nat.reduceAdd, Nat.reduceMul, Nat.reduceLeDiff, Nat.reduceEqDiff, Nat.reduceSub, Int.reduceNeg, Int.reduceToNat, Int.reduceLT, Int.reduceLE, Int.reduceEq, Int.cast_ofNat_Int, decide_true, decide_false, Bool.not_true, Bool.not_false, Bool.and_self, reduceIte, reduceCtorEq]; with_reducible rfl)); (case h2 => exact r1_t rfl rfl); (case he => simp))
               | ((first | apply post_r | apply post_a); (case h1 => first | exact r1_t rfl rfl | (simp only [go_sem, Nat.reduceBEq, Nat.reduceBNe, Nat.reduceLT, Nat.reduceGT, Int.reduceGT, Int.reduceMul, Int.reduceAdd, Int.reduceSub, Nat.reduceAdd, Nat.reduceMul, Nat.reduceLeDiff, Nat.reduceEqDiff, Nat.reduceSub, Int.reduceNeg, Int.reduceToNat, Int.reduceLT, Int.reduceLE, Int.reduceEq, Int.cast_ofNat_Int, decide_true, decide_false, Bool.not_true, Bool.not_false, Bool.and_self, reduceIte, reduceCtorEq, hc, hix, hz1, hz2, q1, q2, q3, q4]; with_reducible rfl)); (case he => simp))
               | (refine hK _ ?_; clear hK)
               | (clear hK; refine hK _ ?_; clear hK)
               | (clear hK; clear hK; refine hK _ ?_; clear hK)
               | (clear hK; clear hK; clear hK; refine hK _ ?_; clear hK)
               | (clear hK; clear hK; clear hK; clear hK; refine hK _ ?_; clear hK)
               | fail
              all_goals (repeat (clear hK))
              all_goals first | done | rfl
          · skip
            have hE := par_no h0 hdg
            rw [hE] at hres
            subst hres
            have q1 := hz1
            have q2 := hz1
            have q3 := hz1
            have q4 := hz1
            repeat' first
             | with_reducible first | refine thenQ_n ?_ | refine thenQ_r ?_ | refine thenQ_e ?_ | refine blockQ_n ?_ | refine blockQ_r ?_ | refine blockQ_e ?_ | refine tri_seq fun K hK => ?_ | refine tri_skip ?_ | refine tri_ret ?_ | refine tri_exit ?_ | refine tri_block ?_ | refine tri_region ?_ | refine sq_nil ?_
             | refine blockQ_o ?_ (by rfl)
             | ((with_reducible apply s_w); (case hw => exact xWT); first | ((with_reducible apply sg_q); (case hd => exact rfl); (case hn => exact rfl); (case he => (first | exact xE0 | ((with_reducible apply e_bi); (case hx => exact xDK); (case hy => exact xDK); (case hs => exact rfl); (case h => (simp only [binI, Int.reduceAdd, Int.reduceSub, Int.reduceMul, Int.reduceLT, Int.reduceLE, Int.reduceGT, Int.reduceEq, Int.reduceNeg, decide_true, decide_false, Bool.not_true, Bool.not_false, hc, hix, hz1, hz2, q1, q2, q3, q4]; with_reducible rfl))) | ((with_reducible apply e_ix); (case hx => exact xDK); (case hi => exact xDK); (case ht => exact xTY); (case hz => exact rfl); (case he => (simp only [hc, hix, hz1, hz2, q1, q2, q3, q4]; with_reducible rfl)); (case hc => exact xGS)) | ((with_reducible apply e_ln); (case hx => exact xDK); (case ht => exact xTY); (case hn => (first | (simp only [List.length_map, List.length_cons, List.length_nil, hc, hix, hz1, hz2, q1, q2, q3, q4]; with_reducible rfl) | rfl))) | ((with_reducible apply e_nt); (case hx => exact xDK); (case h => (first | (simp only [Bool.not_true, Bool.not_false, hc, hix, hz1, hz2, q1, q2, q3, q4]; with_reducible rfl) | rfl)))))) | (((with_reducible apply sg_nil); (case hn => exact rfl); (case hx => exact xDK); (case ht => exact xTY); intro β hβ)) | (((with_reducible apply sg_bx); (case hn => exact rfl); (case hv => exact xLT); (case hc => exact xGS); (case hk => exact rfl))) | (((with_reducible apply sg_al); (case hn => exact rfl); (case hz => exact xTY); (case hc => exact xGS); (case hk => exact rfl))) | (((with_reducible apply sg_st); (case hx => exact xLK); (case hv => exact xLT); (case hc => exact xGS); (case hb => exact rfl); (case ht => exact xTY); (case hz => exact rfl); (case hs => exact xGS))) | (((with_reducible apply sg_e); (case hc => (intros; simp)); (case hs => (simp only [go_sem, Nat.reduceBEq, Nat.reduceBNe, Nat.reduceLT, Nat.reduceGT, Int.reduceGT, Int.reduceMul, Int.reduceAdd, Int.reduceSub, Nat.reduceAdd, Nat.reduceMul, Nat.reduceLeDiff, Nat.reduceEqDiff, Nat.reduceSub, Int.reduceNeg, Int.reduceToNat, Int.reduceLT, Int.reduceLE, Int.reduceEq, Int.cast_ofNat_Int, decide_true, decide_false, Bool.not_true, Bool.not_false, Bool.and_self, reduceIte, reduceCtorEq, hc, hix, hz1, hz2, q1, q2, q3, q4]; with_reducible rfl)))))
             | ((with_reducible apply s_n); (case hw => exact xWF); (case hd => exact rfl); (case hn => exact rfl))
             | ((with_reducible apply qs_ct); (case hc => exact xLK); (case he => exact xHB))
             | ((with_reducible apply qs_cf); (case hc => exact xLK); (case he => exact xHB))
             | ((with_reducible apply qs_cond); (case hc => exact xLK); (case hu => exact xUK); all_goals (intro hb))
             | ((with_reducible apply s_if); (case hg => exact rfl); (case hd => exact rfl); (case he => exact rfl); (case hu => exact xUK); all_goals (intro hb))
             | (apply post_2; (case h1 => first | exact r1_t rfl rfl | exact r1_a rfl | (simp only [go_sem, Nat.reduceBEq, Nat.reduceBNe, Nat.reduceLT, Nat.reduceGT, Int.reduceGT, Int.reduceMul, Int.reduceAdd, Int.reduceSub, Nat.reduceAdd, Nat.reduceMul, Nat.reduceLeDiff, Nat.reduceEqDiff, Nat.reduceSub, Int.reduceNeg, Int.reduceToNat, Int.reduceLT, Int.reduceLE, Int.reduceEq, Int.cast_ofNat_Int, decide_true, decide_false, Bool.not_true, Bool.not_false, Bool.and_self, reduceIte, reduceCtorEq]; with_reducible rfl)); (case h2 => exact r1_t rfl rfl); (case he => simp))
             | ((first | apply post_r | apply post_a); (case h1 => first | exact r1_t rfl rfl | (simp only [go_sem, Nat.reduceBEq, Nat.reduceBNe, Nat.reduceLT, Nat.reduceGT, Int.reduceGT, Int.reduceMul, Int.reduceAdd, Int.reduceSub, Nat.reduceAdd, Nat.reduceMul, Nat.reduceLeDiff, Nat.reduceEqDiff, Nat.reduceSub, Int.reduceNeg, Int.reduceToNat, Int.reduceLT, Int.reduceLE, Int.reduceEq, Int.cast_ofNat_Int, decide_true, decide_false, Bool.not_true, Bool.not_false, Bool.and_self, reduceIte, reduceCtorEq, hc, hix, hz1, hz2, q1, q2, q3, q4]; with_reducible rfl)); (case he => simp))
             | (refine hK _ ?_; clear hK)
             | (clear hK; refine hK _ ?_; clear hK)
             | (clear hK; clear hK; refine hK _ ?_; clear hK)
             | (clear hK; clear hK; clear hK; refine hK _ ?_; clear hK)
             | (clear hK; clear hK; clear hK; clear hK; refine hK _ ?_; clear hK)
             | fail
            all_goals (repeat (clear hK))
            all_goals first | done | rfl
      case true =>
        exfalso
        rw [minus_at (by rw [hsc]; simp)] at hmm
        simp only [hsc, List.getElem_cons_zero, hm0, Bool.true_and] at hmm
        rw [hsc] at hl1
        rw [hl1] at hmm
        cases hmm

theorem c_refParse (s : List UInt8) (hs7 : s.length ≤ 70000) : FC Tryd.prog 10 [.str s] (resP (parF s)) := by
  cases hm : minusF s
  · exact c_refParseP s hs7 hm
  · have hm' := hm
    simp only [minusF, Bool.and_eq_true, decide_eq_true_eq] at hm'
    cases hsc : s with
    | nil => rw [hsc] at hm'; simp at hm'
    | cons x t =>
      have hx : x = 45 := by rw [hsc] at hm'; simpa using hm'.1
      rw [hx] at hsc
      cases htc : t with
      | nil => rw [hsc, htc] at hm'; simp at hm'
      | cons c r =>
        rw [hx, ← htc, ← hsc]
        refine c_refParseM s t c r hs7 ?_ hsc htc
        intro h
        rw [hsc] at h
        unfold nullS at h
        rw [List.cons.injEq] at h
        exact absurd h.1 (by decide)

end Go.Proofs.YtenigafbbdjagaaDoor.AL
