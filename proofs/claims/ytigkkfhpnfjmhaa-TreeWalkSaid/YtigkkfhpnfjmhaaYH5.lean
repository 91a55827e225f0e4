/- Contracts: the same trees. -/
import Derived.Test.YtigkkfhpnfjmhaaYH4
import Derived.Test.YtigkkfhpnfjmhaaYF12
namespace Go.Proofs.Ytigkkfhpnfjmhaa.AL
open Go
set_option linter.unusedVariables false
set_option linter.unusedSimpArgs false
set_option maxRecDepth 4000
def eqT (s : Tre → Tre → Bool) : List Tre → List Tre → Bool
  | [], [] => true
  | p :: l, q :: m => s p q && eqT s l m
  | _, _ => false
theorem eqT_len {s : Tre → Tre → Bool} : ∀ {l m : List Tre}, l.length ≠ m.length → eqT s l m = false
  | [], [], h => by simp at h
  | p :: l, q :: m, h => by simp only [eqT, eqT_len (l := l) (m := m) (by simpa using h), Bool.and_false]
  | [], _ :: _, _ => rfl
  | _ :: _, [], _ => rfl
theorem eqT_all {s : Tre → Tre → Bool} : ∀ {l m : List Tre}, l.length = m.length → (∀ j (h : j < l.length) (h' : j < m.length), s l[j] m[j] = true) → eqT s l m = true
  | [], [], _, _ => rfl
  | p :: l, q :: m, h, ha => by
    have h0 := ha 0 (by simp) (by simp)
    have := eqT_all (s := s) (l := l) (m := m) (by simpa using h) fun j hj hj' => ha (j + 1) (by simpa using hj) (by simpa using hj')
    simp only [List.getElem_cons_zero] at h0
    simp only [eqT, h0, this, Bool.and_self]
  | [], _ :: _, h, _ => by simp at h
  | _ :: _, [], h, _ => by simp at h
theorem eqT_at {s : Tre → Tre → Bool} : ∀ {l m : List Tre} {k : Nat} (h : k < l.length) (h' : k < m.length), s l[k] m[k] = false → eqT s l m = false
  | p :: l, q :: m, 0, h, h', e => by simp only [List.getElem_cons_zero] at e; simp only [eqT, e, Bool.false_and]
  | p :: l, q :: m, k + 1, h, h', e => by
    simp only [List.getElem_cons_succ] at e
    simp only [eqT, eqT_at (by simpa using h) (by simpa using h') e, Bool.and_false]
def baseT (p q : Tre) : Bool := decide (p.kind = q.kind) && (decide (p.table = q.table) && (decide (p.hash = q.hash) && eqL sameF p.conj q.conj))
mutual
def sameT : Tre → Tre → Bool
  | .mk k t ks c h, q => baseT (.mk k t ks c h) q && sameTL ks q.kids
def sameTL : List Tre → List Tre → Bool
  | [], [] => true
  | p :: l, q :: m => sameT p q && sameTL l m
  | [], _ :: _ => false
  | _ :: _, [] => false
end
theorem sameTL_eq : ∀ l m : List Tre, sameTL l m = eqT sameT l m
  | [], [] => by rw [sameTL]; rfl
  | p :: l, q :: m => by rw [sameTL, sameTL_eq l m]; rfl
  | [], _ :: _ => by rw [sameTL]; rfl
  | _ :: _, [] => by rw [sameTL]; rfl
theorem sameT_eq (p q : Tre) : sameT p q = (baseT p q && eqT sameT p.kids q.kids) := by
  cases p; rw [sameT, sameTL_eq]; rfl
set_option maxHeartbeats 4000000 in
theorem c_equalT {f : FuncId} {cs : List AV} {s : Tre → Tre → Bool} (l m : List Tre) (h : ∀ x ∈ l, ∀ y, FC Try.prog f (x.e :: y.e :: cs) (.v (.bool (s x y)))) : FC Try.prog 53 [tresE l, tresE m, .fn f cs] (.v (.bool (eqT s l m))) := by
  refine fc_of_body (nt := 32) (rs := [.tmp 6]) (ts := [(0, _), (1, _), (2, _)]) Try.func53 rfl rfl rfl rfl (by decide) (Nat.le_of_ble_eq_true rfl) ?_
  by_cases he : l.length = m.length
  · have hde : decide ((l.length : Int) = (m.length : Int)) = true := by simp [he]
    have hlm : decide ((m.length : Int) = (m.length : Int)) = true := by simp
    repeat' first
     | with_reducible first | refine thenQ_n ?_ | refine thenQ_r ?_ | refine thenQ_e ?_ | refine blockQ_n ?_ | refine blockQ_r ?_ | refine blockQ_e ?_ | refine tri_seq fun K hK => ?_ | refine tri_skip ?_ | refine tri_ret ?_ | refine tri_exit ?_ | refine tri_block ?_ | refine tri_region ?_ | refine sq_nil ?_
     | refine blockQ_o ?_ (by rfl)
     | ((with_reducible apply s_w); (case hw => exact xWT); first | ((with_reducible apply sg_q); (case hd => exact rfl); (case hn => exact rfl); (case he => (first | exact xE0 | ((with_reducible apply e_bi); (case hx => exact xDK); (case hy => exact xDK); (case hs => exact rfl); (case h => (simp only [binI, Int.reduceAdd, Int.reduceSub, Int.reduceMul, Int.reduceLT, Int.reduceLE, Int.reduceGT, Int.reduceEq, Int.reduceNeg, decide_true, decide_false, Bool.not_true, Bool.not_false, List.length_map, hde]; with_reducible rfl))) | ((with_reducible apply e_ix); (case hx => exact xDK); (case hi => exact xDK); (case ht => exact xTY); (case hz => exact rfl); (case he => (simp only [List.length_map, hde]; with_reducible rfl)); (case hc => exact xGS)) | ((with_reducible apply e_ln); (case hx => exact xDK); (case ht => exact xTY); (case hn => (first | (simp only [List.length_map, List.length_cons, List.length_nil, List.length_map, hde]; with_reducible rfl) | rfl))) | ((with_reducible apply e_nt); (case hx => exact xDK); (case h => (first | (simp only [Bool.not_true, Bool.not_false, List.length_map, hde]; with_reducible rfl) | rfl)))))) | (((with_reducible apply sg_bx); (case hn => exact rfl); (case hv => exact xLT); (case hc => exact xGS); (case hk => exact rfl))) | (((with_reducible apply sg_al); (case hn => exact rfl); (case hz => exact xTY); (case hc => exact xGS); (case hk => exact rfl))) | (((with_reducible apply sg_st); (case hx => exact xLK); (case hv => exact xLT); (case hc => exact xGS); (case hb => exact rfl); (case ht => exact xTY); (case hz => exact rfl); (case hs => exact xGS))) | (((with_reducible apply sg_e); (case hc => (intros; simp)); (case hs => (simp only [go_sem, Nat.reduceBEq, Nat.reduceBNe, Nat.reduceLT, Nat.reduceGT, Int.reduceGT, Int.reduceMul, Int.reduceAdd, Int.reduceSub, Nat.reduceAdd, Nat.reduceMul, Nat.reduceLeDiff, Nat.reduceEqDiff, Nat.reduceSub, Int.reduceNeg, Int.reduceToNat, Int.reduceLT, Int.reduceLE, Int.reduceEq, Int.cast_ofNat_Int, decide_true, decide_false, Bool.not_true, Bool.not_false, Bool.and_self, reduceIte, reduceCtorEq, List.length_map, hde]; with_reducible rfl)))))
     | ((with_reducible apply s_n); (case hw => exact xWF); (case hd => exact rfl); (case hn => exact rfl))
     | ((with_reducible apply qs_ct); (case hc => exact xLK); (case he => exact xHB))
     | ((with_reducible apply qs_cf); (case hc => exact xLK); (case he => exact xHB))
     | ((with_reducible apply qs_cond); (case hc => exact xLK); (case hu => exact xUK); all_goals (intro hb))
     | ((with_reducible apply s_if); (case hg => exact rfl); (case hd => exact rfl); (case he => exact rfl); (case hu => exact xUK); all_goals (intro hb))
     | ((first | apply post_r | apply post_a); (case h1 => first | exact r1_t rfl rfl | (simp only [go_sem, Nat.reduceBEq, Nat.reduceBNe, Nat.reduceLT, Nat.reduceGT, Int.reduceGT, Int.reduceMul, Int.reduceAdd, Int.reduceSub, Nat.reduceAdd, Nat.reduceMul, Nat.reduceLeDiff, Nat.reduceEqDiff, Nat.reduceSub, Int.reduceNeg, Int.reduceToNat, Int.reduceLT, Int.reduceLE, Int.reduceEq, Int.cast_ofNat_Int, decide_true, decide_false, Bool.not_true, Bool.not_false, Bool.and_self, reduceIte, reduceCtorEq, List.length_map, hde]; with_reducible rfl)); (case he => simp))
     | (refine hK _ ?_; clear hK)
     | (clear hK; refine hK _ ?_; clear hK)
     | (clear hK; clear hK; refine hK _ ?_; clear hK)
     | (clear hK; clear hK; clear hK; refine hK _ ?_; clear hK)
     | (clear hK; clear hK; clear hK; clear hK; refine hK _ ?_; clear hK)
     | fail
    refine tri_len 0 (sz := 5) (xs := l.map Tre.e) rfl fun hm => ?_
    rw [List.length_map] at hm
    refine tri_for (fun k : Nat => ⟨32, [(17, .v (.int .i64 (k : Int))), (16, .v (.int .i64 (l.length : Int))), (15, .v (tresE l)), (2, .v (.fn f cs)), (1, .v (tresE m)), (0, .v (tresE l))], [], []⟩) (fun k => k ≤ l.length ∧ ∀ j (hj : j < l.length) (hj' : j < m.length), j < k → s l[j] m[j] = true) (fun k => l.length - k) 0 ?_ ⟨Nat.zero_le _, fun j _ _ h => absurd h (by omega)⟩ ?_
    · exact le_of rfl (by simp [LeT, get]) (by simp [LeT, get]) (by simp [LeK, memK])
    intro k hk
    by_cases hlt : k < l.length
    · have hd : decide ((k : Int) < (l.length : Int)) = true := by simpa using hlt
      have hw := wrap_succ hlt hm
      have hlt' : k < m.length := by omega
      have hck := h l[k] (List.getElem_mem hlt) m[k]
      repeat' first
       | with_reducible first | refine thenQ_n ?_ | refine thenQ_r ?_ | refine thenQ_e ?_ | refine blockQ_n ?_ | refine blockQ_r ?_ | refine blockQ_e ?_ | refine tri_seq fun K hK => ?_ | refine tri_skip ?_ | refine tri_ret ?_ | refine tri_exit ?_ | refine tri_block ?_ | refine tri_region ?_ | refine sq_nil ?_
       | refine blockQ_o ?_ (by rfl)
       | ((with_reducible apply s_w); (case hw => exact xWT); first | ((with_reducible apply sg_q); (case hd => exact rfl); (case hn => exact rfl); (case he => (first | exact xE0 | ((with_reducible apply e_bi); (case hx => exact xDK); (case hy => exact xDK); (case hs => exact rfl); (case h => (simp only [binI, Int.reduceAdd, Int.reduceSub, Int.reduceMul, Int.reduceLT, Int.reduceLE, Int.reduceGT, Int.reduceEq, Int.reduceNeg, decide_true, decide_false, Bool.not_true, Bool.not_false, List.length_map, hd, hw, ixA_map hlt, ixA_map hlt']; with_reducible rfl))) | ((with_reducible apply e_ix); (case hx => exact xDK); (case hi => exact xDK); (case ht => exact xTY); (case hz => exact rfl); (case he => (simp only [List.length_map, hd, hw, ixA_map hlt, ixA_map hlt']; with_reducible rfl)); (case hc => exact xGS)) | ((with_reducible apply e_ln); (case hx => exact xDK); (case ht => exact xTY); (case hn => (first | (simp only [List.length_map, List.length_cons, List.length_nil, List.length_map, hd, hw, ixA_map hlt, ixA_map hlt']; with_reducible rfl) | rfl))) | ((with_reducible apply e_nt); (case hx => exact xDK); (case h => (first | (simp only [Bool.not_true, Bool.not_false, List.length_map, hd, hw, ixA_map hlt, ixA_map hlt']; with_reducible rfl) | rfl)))))) | (((with_reducible apply sg_k); (case ha => exact xDA); (case hfc => ((try simp only [List.length_map, hd, hw, ixA_map hlt, ixA_map hlt']); first | exact hck | (have hq_ := hck; simp only [Prd.e_eq, Trm.e, Val.e, Col.e, Tre.e_eq] at hq_; exact hq_))); (case hr => exact xRT))) | ((with_reducible apply sg_kv); (case hv => exact rfl); (case ha => exact xDA); (case hl => exact xLs); (case hfc => ((try simp only [List.length_map, hd, hw, ixA_map hlt, ixA_map hlt']); first | exact hck | (have hq_ := hck; simp only [Prd.e_eq, Trm.e, Val.e, Col.e, Tre.e_eq] at hq_; exact hq_))); (case hr => exact xRT)) | (((with_reducible apply sg_bx); (case hn => exact rfl); (case hv => exact xLT); (case hc => exact xGS); (case hk => exact rfl))) | (((with_reducible apply sg_al); (case hn => exact rfl); (case hz => exact xTY); (case hc => exact xGS); (case hk => exact rfl))) | (((with_reducible apply sg_st); (case hx => exact xLK); (case hv => exact xLT); (case hc => exact xGS); (case hb => exact rfl); (case ht => exact xTY); (case hz => exact rfl); (case hs => exact xGS))) | (((with_reducible apply sg_e); (case hc => (intros; simp)); (case hs => (simp only [go_sem, Nat.reduceBEq, Nat.reduceBNe, Nat.reduceLT, Nat.reduceGT, Int.reduceGT, Int.reduceMul, Int.reduceAdd, Int.reduceSub, Nat.reduceAdd, Nat.reduceMul, Nat.reduceLeDiff, Nat.reduceEqDiff, Nat.reduceSub, Int.reduceNeg, Int.reduceToNat, Int.reduceLT, Int.reduceLE, Int.reduceEq, Int.cast_ofNat_Int, decide_true, decide_false, Bool.not_true, Bool.not_false, Bool.and_self, reduceIte, reduceCtorEq, List.length_map, hd, hw, ixA_map hlt, ixA_map hlt']; with_reducible rfl)))))
       | ((with_reducible apply s_n); (case hw => exact xWF); (case hd => exact rfl); (case hn => exact rfl))
       | ((with_reducible apply qs_ct); (case hc => exact xLK); (case he => exact xHB))
       | ((with_reducible apply qs_cf); (case hc => exact xLK); (case he => exact xHB))
       | ((with_reducible apply qs_cond); (case hc => exact xLK); (case hu => exact xUK); all_goals (intro hb))
       | ((with_reducible apply s_if); (case hg => exact rfl); (case hd => exact rfl); (case he => exact rfl); (case hu => exact xUK); all_goals (intro hb))
       | ((first | apply post_r | apply post_a); (case h1 => first | exact r1_t rfl rfl | (simp only [go_sem, Nat.reduceBEq, Nat.reduceBNe, Nat.reduceLT, Nat.reduceGT, Int.reduceGT, Int.reduceMul, Int.reduceAdd, Int.reduceSub, Nat.reduceAdd, Nat.reduceMul, Nat.reduceLeDiff, Nat.reduceEqDiff, Nat.reduceSub, Int.reduceNeg, Int.reduceToNat, Int.reduceLT, Int.reduceLE, Int.reduceEq, Int.cast_ofNat_Int, decide_true, decide_false, Bool.not_true, Bool.not_false, Bool.and_self, reduceIte, reduceCtorEq, List.length_map, hd, hw, ixA_map hlt, ixA_map hlt']; with_reducible rfl)); (case he => simp))
       | (refine hK _ ?_; clear hK)
       | (clear hK; refine hK _ ?_; clear hK)
       | (clear hK; clear hK; refine hK _ ?_; clear hK)
       | (clear hK; clear hK; clear hK; refine hK _ ?_; clear hK)
       | (clear hK; clear hK; clear hK; clear hK; refine hK _ ?_; clear hK)
       | fail
      all_goals (repeat (clear hK))
      · exact congrArg _ (eqT_at hlt hlt' (by simpa using hb)).symm
      · refine ⟨k + 1, ⟨hlt, fun j hj hj' hjk => ?_⟩, by omega, le_of rfl (by simp [LeT, get]) (by simp [LeT, get]) (by simp [LeK, memK])⟩
        by_cases e : j = k
        · subst e; simpa using hb
        · exact hk.2 j hj hj' (by omega)
    · have hd : decide ((k : Int) < (l.length : Int)) = false := by simpa using hlt
      repeat' first
       | with_reducible first | refine thenQ_n ?_ | refine thenQ_r ?_ | refine thenQ_e ?_ | refine blockQ_n ?_ | refine blockQ_r ?_ | refine blockQ_e ?_ | refine tri_seq fun K hK => ?_ | refine tri_skip ?_ | refine tri_ret ?_ | refine tri_exit ?_ | refine tri_block ?_ | refine tri_region ?_ | refine sq_nil ?_
       | refine blockQ_o ?_ (by rfl)
       | ((with_reducible apply s_w); (case hw => exact xWT); first | ((with_reducible apply sg_q); (case hd => exact rfl); (case hn => exact rfl); (case he => (first | exact xE0 | ((with_reducible apply e_bi); (case hx => exact xDK); (case hy => exact xDK); (case hs => exact rfl); (case h => (simp only [binI, Int.reduceAdd, Int.reduceSub, Int.reduceMul, Int.reduceLT, Int.reduceLE, Int.reduceGT, Int.reduceEq, Int.reduceNeg, decide_true, decide_false, Bool.not_true, Bool.not_false, List.length_map, hd]; with_reducible rfl))) | ((with_reducible apply e_ix); (case hx => exact xDK); (case hi => exact xDK); (case ht => exact xTY); (case hz => exact rfl); (case he => (simp only [List.length_map, hd]; with_reducible rfl)); (case hc => exact xGS)) | ((with_reducible apply e_ln); (case hx => exact xDK); (case ht => exact xTY); (case hn => (first | (simp only [List.length_map, List.length_cons, List.length_nil, List.length_map, hd]; with_reducible rfl) | rfl))) | ((with_reducible apply e_nt); (case hx => exact xDK); (case h => (first | (simp only [Bool.not_true, Bool.not_false, List.length_map, hd]; with_reducible rfl) | rfl)))))) | (((with_reducible apply sg_bx); (case hn => exact rfl); (case hv => exact xLT); (case hc => exact xGS); (case hk => exact rfl))) | (((with_reducible apply sg_al); (case hn => exact rfl); (case hz => exact xTY); (case hc => exact xGS); (case hk => exact rfl))) | (((with_reducible apply sg_st); (case hx => exact xLK); (case hv => exact xLT); (case hc => exact xGS); (case hb => exact rfl); (case ht => exact xTY); (case hz => exact rfl); (case hs => exact xGS))) | (((with_reducible apply sg_e); (case hc => (intros; simp)); (case hs => (simp only [go_sem, Nat.reduceBEq, Nat.reduceBNe, Nat.reduceLT, Nat.reduceGT, Int.reduceGT, Int.reduceMul, Int.reduceAdd, Int.reduceSub, Nat.reduceAdd, Nat.reduceMul, Nat.reduceLeDiff, Nat.reduceEqDiff, Nat.reduceSub, Int.reduceNeg, Int.reduceToNat, Int.reduceLT, Int.reduceLE, Int.reduceEq, Int.cast_ofNat_Int, decide_true, decide_false, Bool.not_true, Bool.not_false, Bool.and_self, reduceIte, reduceCtorEq, List.length_map, hd]; with_reducible rfl)))))
       | ((with_reducible apply s_n); (case hw => exact xWF); (case hd => exact rfl); (case hn => exact rfl))
       | ((with_reducible apply qs_ct); (case hc => exact xLK); (case he => exact xHB))
       | ((with_reducible apply qs_cf); (case hc => exact xLK); (case he => exact xHB))
       | ((with_reducible apply qs_cond); (case hc => exact xLK); (case hu => exact xUK); all_goals (intro hb))
       | ((with_reducible apply s_if); (case hg => exact rfl); (case hd => exact rfl); (case he => exact rfl); (case hu => exact xUK); all_goals (intro hb))
       | ((first | apply post_r | apply post_a); (case h1 => first | exact r1_t rfl rfl | (simp only [go_sem, Nat.reduceBEq, Nat.reduceBNe, Nat.reduceLT, Nat.reduceGT, Int.reduceGT, Int.reduceMul, Int.reduceAdd, Int.reduceSub, Nat.reduceAdd, Nat.reduceMul, Nat.reduceLeDiff, Nat.reduceEqDiff, Nat.reduceSub, Int.reduceNeg, Int.reduceToNat, Int.reduceLT, Int.reduceLE, Int.reduceEq, Int.cast_ofNat_Int, decide_true, decide_false, Bool.not_true, Bool.not_false, Bool.and_self, reduceIte, reduceCtorEq, List.length_map, hd]; with_reducible rfl)); (case he => simp))
       | (refine hK _ ?_; clear hK)
       | (clear hK; refine hK _ ?_; clear hK)
       | (clear hK; clear hK; refine hK _ ?_; clear hK)
       | (clear hK; clear hK; clear hK; refine hK _ ?_; clear hK)
       | (clear hK; clear hK; clear hK; clear hK; refine hK _ ?_; clear hK)
       | fail
      all_goals (repeat (clear hK))
      exact congrArg _ (eqT_all he fun j hj hj' => hk.2 j hj hj' (by omega)).symm
  · have hde : decide ((l.length : Int) = (m.length : Int)) = false := by simp; omega
    repeat' first
     | with_reducible first | refine thenQ_n ?_ | refine thenQ_r ?_ | refine thenQ_e ?_ | refine blockQ_n ?_ | refine blockQ_r ?_ | refine blockQ_e ?_ | refine tri_seq fun K hK => ?_ | refine tri_skip ?_ | refine tri_ret ?_ | refine tri_exit ?_ | refine tri_block ?_ | refine tri_region ?_ | refine sq_nil ?_
     | refine blockQ_o ?_ (by rfl)
     | ((with_reducible apply s_w); (case hw => exact xWT); first | ((with_reducible apply sg_q); (case hd => exact rfl); (case hn => exact rfl); (case he => (first | exact xE0 | ((with_reducible apply e_bi); (case hx => exact xDK); (case hy => exact xDK); (case hs => exact rfl); (case h => (simp only [binI, Int.reduceAdd, Int.reduceSub, Int.reduceMul, Int.reduceLT, Int.reduceLE, Int.reduceGT, Int.reduceEq, Int.reduceNeg, decide_true, decide_false, Bool.not_true, Bool.not_false, List.length_map, hde]; with_reducible rfl))) | ((with_reducible apply e_ix); (case hx => exact xDK); (case hi => exact xDK); (case ht => exact xTY); (case hz => exact rfl); (case he => (simp only [List.length_map, hde]; with_reducible rfl)); (case hc => exact xGS)) | ((with_reducible apply e_ln); (case hx => exact xDK); (case ht => exact xTY); (case hn => (first | (simp only [List.length_map, List.length_cons, List.length_nil, List.length_map, hde]; with_reducible rfl) | rfl))) | ((with_reducible apply e_nt); (case hx => exact xDK); (case h => (first | (simp only [Bool.not_true, Bool.not_false, List.length_map, hde]; with_reducible rfl) | rfl)))))) | (((with_reducible apply sg_bx); (case hn => exact rfl); (case hv => exact xLT); (case hc => exact xGS); (case hk => exact rfl))) | (((with_reducible apply sg_al); (case hn => exact rfl); (case hz => exact xTY); (case hc => exact xGS); (case hk => exact rfl))) | (((with_reducible apply sg_st); (case hx => exact xLK); (case hv => exact xLT); (case hc => exact xGS); (case hb => exact rfl); (case ht => exact xTY); (case hz => exact rfl); (case hs => exact xGS))) | (((with_reducible apply sg_e); (case hc => (intros; simp)); (case hs => (simp only [go_sem, Nat.reduceBEq, Nat.reduceBNe, Nat.reduceLT, Nat.reduceGT, Int.reduceGT, Int.reduceMul, Int.reduceAdd, Int.reduceSub, Nat.reduceAdd, Nat.reduceMul, Nat.reduceLeDiff, Nat.reduceEqDiff, Nat.reduceSub, Int.reduceNeg, Int.reduceToNat, Int.reduceLT, Int.reduceLE, Int.reduceEq, Int.cast_ofNat_Int, decide_true, decide_false, Bool.not_true, Bool.not_false, Bool.and_self, reduceIte, reduceCtorEq, List.length_map, hde]; with_reducible rfl)))))
     | ((with_reducible apply s_n); (case hw => exact xWF); (case hd => exact rfl); (case hn => exact rfl))
     | ((with_reducible apply qs_ct); (case hc => exact xLK); (case he => exact xHB))
     | ((with_reducible apply qs_cf); (case hc => exact xLK); (case he => exact xHB))
     | ((with_reducible apply qs_cond); (case hc => exact xLK); (case hu => exact xUK); all_goals (intro hb))
     | ((with_reducible apply s_if); (case hg => exact rfl); (case hd => exact rfl); (case he => exact rfl); (case hu => exact xUK); all_goals (intro hb))
     | ((first | apply post_r | apply post_a); (case h1 => first | exact r1_t rfl rfl | (simp only [go_sem, Nat.reduceBEq, Nat.reduceBNe, Nat.reduceLT, Nat.reduceGT, Int.reduceGT, Int.reduceMul, Int.reduceAdd, Int.reduceSub, Nat.reduceAdd, Nat.reduceMul, Nat.reduceLeDiff, Nat.reduceEqDiff, Nat.reduceSub, Int.reduceNeg, Int.reduceToNat, Int.reduceLT, Int.reduceLE, Int.reduceEq, Int.cast_ofNat_Int, decide_true, decide_false, Bool.not_true, Bool.not_false, Bool.and_self, reduceIte, reduceCtorEq, List.length_map, hde]; with_reducible rfl)); (case he => simp))
     | (refine hK _ ?_; clear hK)
     | (clear hK; refine hK _ ?_; clear hK)
     | (clear hK; clear hK; refine hK _ ?_; clear hK)
     | (clear hK; clear hK; clear hK; refine hK _ ?_; clear hK)
     | (clear hK; clear hK; clear hK; clear hK; refine hK _ ?_; clear hK)
     | fail
    all_goals (repeat (clear hK))
    exact congrArg _ (eqT_len he).symm

set_option maxHeartbeats 4000000 in
theorem c_sameT (p q : Tre) : FC Try.prog 18 [p.e, q.e] (.v (.bool (sameT p q))) := by
  revert q
  induction p using Tre.ind
  rename_i p ih
  intro q
  have c1 := c_equalP (f := 39) (cs := []) p.conj q.conj (fun x hx y => c_same x y)
  have c2 := c_equalT (f := 18) (cs := []) p.kids q.kids (fun x hx y => ih x hx y)
  refine fc_of_body (nt := 36) (rs := [.tmp 4]) (ts := [(0, _), (1, _)]) Try.func18 rfl rfl rfl rfl (by decide) (Nat.le_of_ble_eq_true rfl) ?_
  repeat' first
   | with_reducible first | refine thenQ_n ?_ | refine thenQ_r ?_ | refine thenQ_e ?_ | refine blockQ_n ?_ | refine blockQ_r ?_ | refine blockQ_e ?_ | refine tri_seq fun K hK => ?_ | refine tri_skip ?_ | refine tri_ret ?_ | refine tri_exit ?_ | refine tri_block ?_ | refine tri_region ?_ | refine sq_nil ?_
   | refine blockQ_o ?_ (by rfl)
   | ((with_reducible apply s_w); (case hw => exact xWT); first | ((with_reducible apply sg_q); (case hd => exact rfl); (case hn => exact rfl); (case he => (first | exact xE0 | ((with_reducible apply e_bi); (case hx => exact xDK); (case hy => exact xDK); (case hs => exact rfl); (case h => (simp only [binI, Int.reduceAdd, Int.reduceSub, Int.reduceMul, Int.reduceLT, Int.reduceLE, Int.reduceGT, Int.reduceEq, Int.reduceNeg, decide_true, decide_false, Bool.not_true, Bool.not_false, List.length_map, eq_self, decide_true, Bool.and_true, Bool.true_and]; with_reducible rfl))) | ((with_reducible apply e_ix); (case hx => exact xDK); (case hi => exact xDK); (case ht => exact xTY); (case hz => exact rfl); (case he => (simp only [List.length_map, eq_self, decide_true, Bool.and_true, Bool.true_and]; with_reducible rfl)); (case hc => exact xGS)) | ((with_reducible apply e_ln); (case hx => exact xDK); (case ht => exact xTY); (case hn => (first | (simp only [List.length_map, List.length_cons, List.length_nil, List.length_map, eq_self, decide_true, Bool.and_true, Bool.true_and]; with_reducible rfl) | rfl))) | ((with_reducible apply e_nt); (case hx => exact xDK); (case h => (first | (simp only [Bool.not_true, Bool.not_false, List.length_map, eq_self, decide_true, Bool.and_true, Bool.true_and]; with_reducible rfl) | rfl)))))) | (((with_reducible apply sg_k); (case ha => exact xDA); (case hfc => ((try simp only [List.length_map, eq_self, decide_true, Bool.and_true, Bool.true_and]); first | exact c1 | exact c2 | (have hq_ := c1; simp only [Prd.e_eq, Trm.e, Val.e, Col.e, Tre.e_eq] at hq_; exact hq_) | (have hq_ := c2; simp only [Prd.e_eq, Trm.e, Val.e, Col.e, Tre.e_eq] at hq_; exact hq_))); (case hr => exact xRT))) | ((with_reducible apply sg_kv); (case hv => exact rfl); (case ha => exact xDA); (case hl => exact xLs); (case hfc => ((try simp only [List.length_map, eq_self, decide_true, Bool.and_true, Bool.true_and]); first | exact c1 | exact c2 | (have hq_ := c1; simp only [Prd.e_eq, Trm.e, Val.e, Col.e, Tre.e_eq] at hq_; exact hq_) | (have hq_ := c2; simp only [Prd.e_eq, Trm.e, Val.e, Col.e, Tre.e_eq] at hq_; exact hq_))); (case hr => exact xRT)) | (((with_reducible apply sg_bx); (case hn => exact rfl); (case hv => exact xLT); (case hc => exact xGS); (case hk => exact rfl))) | (((with_reducible apply sg_al); (case hn => exact rfl); (case hz => exact xTY); (case hc => exact xGS); (case hk => exact rfl))) | (((with_reducible apply sg_st); (case hx => exact xLK); (case hv => exact xLT); (case hc => exact xGS); (case hb => exact rfl); (case ht => exact xTY); (case hz => exact rfl); (case hs => exact xGS))) | (((with_reducible apply sg_e); (case hc => (intros; simp)); (case hs => (simp only [go_sem, Nat.reduceBEq, Nat.reduceBNe, Nat.reduceLT, Nat.reduceGT, Int.reduceGT, Int.reduceMul, Int.reduceAdd, Int.reduceSub, Nat.reduceAdd, Nat.reduceMul, Nat.reduceLeDiff, Nat.reduceEqDiff, Nat.reduceSub, Int.reduceNeg, Int.reduceToNat, Int.reduceLT, Int.reduceLE, Int.reduceEq, Int.cast_ofNat_Int, decide_true, decide_false, Bool.not_true, Bool.not_false, Bool.and_self, reduceIte, reduceCtorEq, List.length_map, eq_self, decide_true, Bool.and_true, Bool.true_and]; with_reducible rfl)))))
   | ((with_reducible apply s_n); (case hw => exact xWF); (case hd => exact rfl); (case hn => exact rfl))
   | ((with_reducible apply qs_ct); (case hc => exact xLK); (case he => exact xHB))
   | ((with_reducible apply qs_cf); (case hc => exact xLK); (case he => exact xHB))
   | ((with_reducible apply qs_cond); (case hc => exact xLK); (case hu => exact xUK); all_goals (intro hb))
   | ((with_reducible apply s_if); (case hg => exact rfl); (case hd => exact rfl); (case he => exact rfl); (case hu => exact xUK); all_goals (intro hb))
   | ((first | apply post_r | apply post_a); (case h1 => first | exact r1_t rfl rfl | (simp only [go_sem, Nat.reduceBEq, Nat.reduceBNe, Nat.reduceLT, Nat.reduceGT, Int.reduceGT, Int.reduceMul, Int.reduceAdd, Int.reduceSub, Nat.reduceAdd, Nat.reduceMul, Nat.reduceLeDiff, Nat.reduceEqDiff, Nat.reduceSub, Int.reduceNeg, Int.reduceToNat, Int.reduceLT, Int.reduceLE, Int.reduceEq, Int.cast_ofNat_Int, decide_true, decide_false, Bool.not_true, Bool.not_false, Bool.and_self, reduceIte, reduceCtorEq, List.length_map, eq_self, decide_true, Bool.and_true, Bool.true_and]; with_reducible rfl)); (case he => simp))
   | (refine hK _ ?_; clear hK)
   | (clear hK; refine hK _ ?_; clear hK)
   | (clear hK; clear hK; refine hK _ ?_; clear hK)
   | (clear hK; clear hK; clear hK; refine hK _ ?_; clear hK)
   | (clear hK; clear hK; clear hK; clear hK; refine hK _ ?_; clear hK)
   | fail
  all_goals (repeat (clear hK))
  all_goals (clear ih c1 c2)
  all_goals (rw [sameT_eq])
  all_goals simp_all [baseT]

set_option maxHeartbeats 4000000 in
theorem c_refListP (l m : List Prd) : FC Try.prog 54 [prdsE l, prdsE m] (.v (.bool (eqL sameF l m))) := by
  refine fc_of_body (nt := 27) (rs := [.tmp 4]) (ts := [(0, _), (1, _)]) Try.func54 rfl rfl rfl rfl (by decide) (Nat.le_of_ble_eq_true rfl) ?_
  by_cases he : l.length = m.length
  case neg =>
    have hde : decide ((l.length : Int) = (m.length : Int)) = false := by simp; omega
    repeat' first
     | with_reducible first | refine thenQ_n ?_ | refine thenQ_r ?_ | refine thenQ_e ?_ | refine blockQ_n ?_ | refine blockQ_r ?_ | refine blockQ_e ?_ | refine tri_seq fun K hK => ?_ | refine tri_skip ?_ | refine tri_ret ?_ | refine tri_exit ?_ | refine tri_block ?_ | refine tri_region ?_ | refine sq_nil ?_
     | refine blockQ_o ?_ (by rfl)
     | (with_reducible refine dr (id := 6) [0, 1, 2, 3, 4, 5, 6, 7, 8, 9] [] ?_)
     | ((first | with_reducible apply s_w | ((with_reducible apply d_w); (case ho => exact rfl))); (case hw => exact xWT); first | ((with_reducible first | apply sg_q | apply dg_q); (case hd => exact rfl); (case hn => exact rfl); (case he => (first | exact xE0 | ((with_reducible apply e_bi); (case hx => exact xDK); (case hy => exact xDK); (case hs => exact rfl); (case h => (simp only [binI, Int.reduceAdd, Int.reduceSub, Int.reduceMul, Int.reduceLT, Int.reduceLE, Int.reduceGT, Int.reduceEq, Int.reduceNeg, decide_true, decide_false, Bool.not_true, Bool.not_false, List.length_map, eq_self, decide_true, Bool.and_true, Bool.true_and, hde]; with_reducible rfl))) | ((with_reducible apply e_ix); (case hx => exact xDK); (case hi => exact xDK); (case ht => exact xTY); (case hz => exact rfl); (case he => (simp only [List.length_map, eq_self, decide_true, Bool.and_true, Bool.true_and, hde]; with_reducible rfl)); (case hc => exact xGS)) | ((with_reducible apply e_ln); (case hx => exact xDK); (case ht => exact xTY); (case hn => (first | (simp only [List.length_map, List.length_cons, List.length_nil, List.length_map, eq_self, decide_true, Bool.and_true, Bool.true_and, hde]; with_reducible rfl) | rfl))) | ((with_reducible apply e_nt); (case hx => exact xDK); (case h => (first | (simp only [Bool.not_true, Bool.not_false, List.length_map, eq_self, decide_true, Bool.and_true, Bool.true_and, hde]; with_reducible rfl) | rfl)))))) | (((with_reducible apply sg_bx); (case hn => exact rfl); (case hv => exact xLT); (case hc => exact xGS); (case hk => exact rfl))) | (((with_reducible apply sg_al); (case hn => exact rfl); (case hz => exact xTY); (case hc => exact xGS); (case hk => exact rfl))) | (((with_reducible apply sg_st); (case hx => exact xLK); (case hv => exact xLT); (case hc => exact xGS); (case hb => exact rfl); (case ht => exact xTY); (case hz => exact rfl); (case hs => exact xGS))) | (((with_reducible apply dg_al); (case hn => exact rfl); (case hz => exact xTY); (case hc => exact xGS))) | (((first | ((with_reducible apply sg_e); (case hc => (intros; simp))) | ((with_reducible apply dg_e); (case hd => exact rfl); (case hn => exact rfl))); (case hs => (simp only [go_sem, Nat.reduceBEq, Nat.reduceBNe, Nat.reduceLT, Nat.reduceGT, Int.reduceGT, Int.reduceMul, Int.reduceAdd, Int.reduceSub, Nat.reduceAdd, Nat.reduceMul, Nat.reduceLeDiff, Nat.reduceEqDiff, Nat.reduceSub, Int.reduceNeg, Int.reduceToNat, Int.reduceLT, Int.reduceLE, Int.reduceEq, Int.cast_ofNat_Int, decide_true, decide_false, Bool.not_true, Bool.not_false, Bool.and_self, reduceIte, reduceCtorEq, List.length_map, eq_self, decide_true, Bool.and_true, Bool.true_and, hde]; with_reducible rfl)))))
     | ((first | with_reducible apply s_n | ((with_reducible apply d_n); (case ho => exact rfl))); (case hw => exact xWF); (case hd => exact rfl); (case hn => exact rfl))
     | ((with_reducible refine dq_nil ?_); apply d_end; (case hd => kernel_rfl); (case ht => exact xGS); (case hb => exact xGS); (case hk => exact xGS))
     | ((with_reducible apply qs_ct); (case hc => exact xLK); (case he => exact xHB))
     | ((with_reducible apply qs_cf); (case hc => exact xLK); (case he => exact xHB))
     | ((with_reducible apply qs_cond); (case hc => exact xLK); (case hu => exact xUK); all_goals (intro hb))
     | ((first | with_reducible apply s_if | ((with_reducible apply d_if); (case ho => exact rfl))); (case hg => exact rfl); (case hd => exact rfl); (case he => exact rfl); (case hu => exact xUK); all_goals (intro hb))
     | ((first | apply post_r | apply post_a); (case h1 => first | exact r1_t rfl rfl | (simp only [go_sem, Nat.reduceBEq, Nat.reduceBNe, Nat.reduceLT, Nat.reduceGT, Int.reduceGT, Int.reduceMul, Int.reduceAdd, Int.reduceSub, Nat.reduceAdd, Nat.reduceMul, Nat.reduceLeDiff, Nat.reduceEqDiff, Nat.reduceSub, Int.reduceNeg, Int.reduceToNat, Int.reduceLT, Int.reduceLE, Int.reduceEq, Int.cast_ofNat_Int, decide_true, decide_false, Bool.not_true, Bool.not_false, Bool.and_self, reduceIte, reduceCtorEq, List.length_map, eq_self, decide_true, Bool.and_true, Bool.true_and, hde]; with_reducible rfl)); (case he => simp))
     | (refine hK _ ?_; clear hK)
     | (clear hK; refine hK _ ?_; clear hK)
     | (clear hK; clear hK; refine hK _ ?_; clear hK)
     | (clear hK; clear hK; clear hK; refine hK _ ?_; clear hK)
     | (clear hK; clear hK; clear hK; clear hK; refine hK _ ?_; clear hK)
     | fail
    all_goals (repeat (clear hK))
    all_goals exact congrArg _ (eqL_len he).symm
  have hde : decide ((l.length : Int) = (m.length : Int)) = true := by simp [he]
  have hlm : decide ((m.length : Int) = (m.length : Int)) = true := by simp
  refine tri_len 0 (sz := 14) (xs := l.map Prd.e) rfl fun hm => ?_
  rw [List.length_map] at hm
  repeat' first
   | with_reducible first | refine thenQ_n ?_ | refine thenQ_r ?_ | refine thenQ_e ?_ | refine blockQ_n ?_ | refine blockQ_r ?_ | refine blockQ_e ?_ | refine tri_seq fun K hK => ?_ | refine tri_skip ?_ | refine tri_ret ?_ | refine tri_exit ?_ | refine tri_block ?_ | refine tri_region ?_ | refine sq_nil ?_
   | refine blockQ_o ?_ (by rfl)
   | (with_reducible refine dr (id := 6) [0, 1, 2, 3, 4, 5, 6, 7, 8, 9] [] ?_)
   | ((first | with_reducible apply s_w | ((with_reducible apply d_w); (case ho => exact rfl))); (case hw => exact xWT); first | ((with_reducible first | apply sg_q | apply dg_q); (case hd => exact rfl); (case hn => exact rfl); (case he => (first | exact xE0 | ((with_reducible apply e_bi); (case hx => exact xDK); (case hy => exact xDK); (case hs => exact rfl); (case h => (simp only [binI, Int.reduceAdd, Int.reduceSub, Int.reduceMul, Int.reduceLT, Int.reduceLE, Int.reduceGT, Int.reduceEq, Int.reduceNeg, decide_true, decide_false, Bool.not_true, Bool.not_false, List.length_map, eq_self, decide_true, Bool.and_true, Bool.true_and, hde]; with_reducible rfl))) | ((with_reducible apply e_ix); (case hx => exact xDK); (case hi => exact xDK); (case ht => exact xTY); (case hz => exact rfl); (case he => (simp only [List.length_map, eq_self, decide_true, Bool.and_true, Bool.true_and, hde]; with_reducible rfl)); (case hc => exact xGS)) | ((with_reducible apply e_ln); (case hx => exact xDK); (case ht => exact xTY); (case hn => (first | (simp only [List.length_map, List.length_cons, List.length_nil, List.length_map, eq_self, decide_true, Bool.and_true, Bool.true_and, hde]; with_reducible rfl) | rfl))) | ((with_reducible apply e_nt); (case hx => exact xDK); (case h => (first | (simp only [Bool.not_true, Bool.not_false, List.length_map, eq_self, decide_true, Bool.and_true, Bool.true_and, hde]; with_reducible rfl) | rfl)))))) | (((with_reducible apply sg_bx); (case hn => exact rfl); (case hv => exact xLT); (case hc => exact xGS); (case hk => exact rfl))) | (((with_reducible apply sg_al); (case hn => exact rfl); (case hz => exact xTY); (case hc => exact xGS); (case hk => exact rfl))) | (((with_reducible apply sg_st); (case hx => exact xLK); (case hv => exact xLT); (case hc => exact xGS); (case hb => exact rfl); (case ht => exact xTY); (case hz => exact rfl); (case hs => exact xGS))) | (((with_reducible apply dg_al); (case hn => exact rfl); (case hz => exact xTY); (case hc => exact xGS))) | (((first | ((with_reducible apply sg_e); (case hc => (intros; simp))) | ((with_reducible apply dg_e); (case hd => exact rfl); (case hn => exact rfl))); (case hs => (simp only [go_sem, Nat.reduceBEq, Nat.reduceBNe, Nat.reduceLT, Nat.reduceGT, Int.reduceGT, Int.reduceMul, Int.reduceAdd, Int.reduceSub, Nat.reduceAdd, Nat.reduceMul, Nat.reduceLeDiff, Nat.reduceEqDiff, Nat.reduceSub, Int.reduceNeg, Int.reduceToNat, Int.reduceLT, Int.reduceLE, Int.reduceEq, Int.cast_ofNat_Int, decide_true, decide_false, Bool.not_true, Bool.not_false, Bool.and_self, reduceIte, reduceCtorEq, List.length_map, eq_self, decide_true, Bool.and_true, Bool.true_and, hde]; with_reducible rfl)))))
   | ((first | with_reducible apply s_n | ((with_reducible apply d_n); (case ho => exact rfl))); (case hw => exact xWF); (case hd => exact rfl); (case hn => exact rfl))
   | ((with_reducible refine dq_nil ?_); apply d_end; (case hd => kernel_rfl); (case ht => exact xGS); (case hb => exact xGS); (case hk => exact xGS))
   | ((with_reducible apply qs_ct); (case hc => exact xLK); (case he => exact xHB))
   | ((with_reducible apply qs_cf); (case hc => exact xLK); (case he => exact xHB))
   | ((with_reducible apply qs_cond); (case hc => exact xLK); (case hu => exact xUK); all_goals (intro hb))
   | ((first | with_reducible apply s_if | ((with_reducible apply d_if); (case ho => exact rfl))); (case hg => exact rfl); (case hd => exact rfl); (case he => exact rfl); (case hu => exact xUK); all_goals (intro hb))
   | ((first | apply post_r | apply post_a); (case h1 => first | exact r1_t rfl rfl | (simp only [go_sem, Nat.reduceBEq, Nat.reduceBNe, Nat.reduceLT, Nat.reduceGT, Int.reduceGT, Int.reduceMul, Int.reduceAdd, Int.reduceSub, Nat.reduceAdd, Nat.reduceMul, Nat.reduceLeDiff, Nat.reduceEqDiff, Nat.reduceSub, Int.reduceNeg, Int.reduceToNat, Int.reduceLT, Int.reduceLE, Int.reduceEq, Int.cast_ofNat_Int, decide_true, decide_false, Bool.not_true, Bool.not_false, Bool.and_self, reduceIte, reduceCtorEq, List.length_map, eq_self, decide_true, Bool.and_true, Bool.true_and, hde]; with_reducible rfl)); (case he => simp))
   | (refine hK _ ?_; clear hK)
   | (clear hK; refine hK _ ?_; clear hK)
   | (clear hK; clear hK; refine hK _ ?_; clear hK)
   | (clear hK; clear hK; clear hK; refine hK _ ?_; clear hK)
   | (clear hK; clear hK; clear hK; clear hK; refine hK _ ?_; clear hK)
   | fail
  refine tri_for (fun k : Nat => ⟨27, [(5, .v (.int .i64 (k : Int))), (1, .v (prdsE m)), (0, .v (prdsE l))], [], []⟩) (fun k => k ≤ l.length ∧ ∀ j (hj : j < l.length) (hj' : j < m.length), j < k → sameF l[j] m[j] = true) (fun k => l.length - k) 0 ?_ ⟨Nat.zero_le _, fun j _ _ h => absurd h (by omega)⟩ ?_
  · exact le_of rfl (by simp [LeT, get]) (by simp [LeT, get]) (by simp [LeK, memK])
  intro k hk
  by_cases hlt : k < l.length
  · have hd : decide ((k : Int) < (l.length : Int)) = true := by simpa using hlt
    have hw := wrap_succ hlt hm
    have hlt' : k < m.length := by omega
    have hck := c_refSame l[k] m[k]
    simp only [Prd.e_eq] at hck
    repeat' first
     | with_reducible first | refine thenQ_n ?_ | refine thenQ_r ?_ | refine thenQ_e ?_ | refine blockQ_n ?_ | refine blockQ_r ?_ | refine blockQ_e ?_ | refine tri_seq fun K hK => ?_ | refine tri_skip ?_ | refine tri_ret ?_ | refine tri_exit ?_ | refine tri_block ?_ | refine tri_region ?_ | refine sq_nil ?_
     | refine blockQ_o ?_ (by rfl)
     | (with_reducible refine dr (id := 6) [0, 1, 2, 3, 4, 5, 6, 7, 8, 9] [] ?_)
     | ((first | with_reducible apply s_w | ((with_reducible apply d_w); (case ho => exact rfl))); (case hw => exact xWT); first | ((with_reducible first | apply sg_q | apply dg_q); (case hd => exact rfl); (case hn => exact rfl); (case he => (first | exact xE0 | ((with_reducible apply e_bi); (case hx => exact xDK); (case hy => exact xDK); (case hs => exact rfl); (case h => (simp only [binI, Int.reduceAdd, Int.reduceSub, Int.reduceMul, Int.reduceLT, Int.reduceLE, Int.reduceGT, Int.reduceEq, Int.reduceNeg, decide_true, decide_false, Bool.not_true, Bool.not_false, List.length_map, hd, hw, ixA_map hlt, ixA_map hlt']; with_reducible rfl))) | ((with_reducible apply e_ix); (case hx => exact xDK); (case hi => exact xDK); (case ht => exact xTY); (case hz => exact rfl); (case he => (simp only [List.length_map, hd, hw, ixA_map hlt, ixA_map hlt']; with_reducible rfl)); (case hc => exact xGS)) | ((with_reducible apply e_ln); (case hx => exact xDK); (case ht => exact xTY); (case hn => (first | (simp only [List.length_map, List.length_cons, List.length_nil, List.length_map, hd, hw, ixA_map hlt, ixA_map hlt']; with_reducible rfl) | rfl))) | ((with_reducible apply e_nt); (case hx => exact xDK); (case h => (first | (simp only [Bool.not_true, Bool.not_false, List.length_map, hd, hw, ixA_map hlt, ixA_map hlt']; with_reducible rfl) | rfl)))))) | ((first | with_reducible apply sg_k | ((with_reducible apply dg_k); (case hn => exact rfl))); (case ha => exact xDA); (case hfc => ((try simp only [List.length_map, hd, hw, ixA_map hlt, ixA_map hlt']); first | exact hck | (have hq_ := hck; simp only [Prd.e_eq, Trm.e, Val.e, Col.e, Tre.e_eq] at hq_; exact hq_))); (case hr => exact xRD)) | ((first | with_reducible apply sg_kv | ((with_reducible apply dg_kv); (case hn => exact rfl))); (case hv => exact rfl); (case ha => exact xDA); (case hl => exact xLs); (case hfc => ((try simp only [List.length_map, hd, hw, ixA_map hlt, ixA_map hlt']); first | exact hck | (have hq_ := hck; simp only [Prd.e_eq, Trm.e, Val.e, Col.e, Tre.e_eq] at hq_; exact hq_))); (case hr => exact xRD)) | (((with_reducible apply sg_bx); (case hn => exact rfl); (case hv => exact xLT); (case hc => exact xGS); (case hk => exact rfl))) | (((with_reducible apply sg_al); (case hn => exact rfl); (case hz => exact xTY); (case hc => exact xGS); (case hk => exact rfl))) | (((with_reducible apply sg_st); (case hx => exact xLK); (case hv => exact xLT); (case hc => exact xGS); (case hb => exact rfl); (case ht => exact xTY); (case hz => exact rfl); (case hs => exact xGS))) | (((with_reducible apply dg_al); (case hn => exact rfl); (case hz => exact xTY); (case hc => exact xGS))) | (((first | ((with_reducible apply sg_e); (case hc => (intros; simp))) | ((with_reducible apply dg_e); (case hd => exact rfl); (case hn => exact rfl))); (case hs => (simp only [go_sem, Nat.reduceBEq, Nat.reduceBNe, Nat.reduceLT, Nat.reduceGT, Int.reduceGT, Int.reduceMul, Int.reduceAdd, Int.reduceSub, Nat.reduceAdd, Nat.reduceMul, Nat.reduceLeDiff, Nat.reduceEqDiff, Nat.reduceSub, Int.reduceNeg, Int.reduceToNat, Int.reduceLT, Int.reduceLE, Int.reduceEq, Int.cast_ofNat_Int, decide_true, decide_false, Bool.not_true, Bool.not_false, Bool.and_self, reduceIte, reduceCtorEq, List.length_map, hd, hw, ixA_map hlt, ixA_map hlt']; with_reducible rfl)))))
     | ((first | with_reducible apply s_n | ((with_reducible apply d_n); (case ho => exact rfl))); (case hw => exact xWF); (case hd => exact rfl); (case hn => exact rfl))
     | ((with_reducible refine dq_nil ?_); apply d_end; (case hd => kernel_rfl); (case ht => exact xGS); (case hb => exact xGS); (case hk => exact xGS))
     | ((with_reducible apply qs_ct); (case hc => exact xLK); (case he => exact xHB))
     | ((with_reducible apply qs_cf); (case hc => exact xLK); (case he => exact xHB))
     | ((with_reducible apply qs_cond); (case hc => exact xLK); (case hu => exact xUK); all_goals (intro hb))
     | ((first | with_reducible apply s_if | ((with_reducible apply d_if); (case ho => exact rfl))); (case hg => exact rfl); (case hd => exact rfl); (case he => exact rfl); (case hu => exact xUK); all_goals (intro hb))
     | ((first | apply post_r | apply post_a); (case h1 => first | exact r1_t rfl rfl | (simp only [go_sem, Nat.reduceBEq, Nat.reduceBNe, Nat.reduceLT, Nat.reduceGT, Int.reduceGT, Int.reduceMul, Int.reduceAdd, Int.reduceSub, Nat.reduceAdd, Nat.reduceMul, Nat.reduceLeDiff, Nat.reduceEqDiff, Nat.reduceSub, Int.reduceNeg, Int.reduceToNat, Int.reduceLT, Int.reduceLE, Int.reduceEq, Int.cast_ofNat_Int, decide_true, decide_false, Bool.not_true, Bool.not_false, Bool.and_self, reduceIte, reduceCtorEq, List.length_map, hd, hw, ixA_map hlt, ixA_map hlt']; with_reducible rfl)); (case he => simp))
     | (refine hK _ ?_; clear hK)
     | (clear hK; refine hK _ ?_; clear hK)
     | (clear hK; clear hK; refine hK _ ?_; clear hK)
     | (clear hK; clear hK; clear hK; refine hK _ ?_; clear hK)
     | (clear hK; clear hK; clear hK; clear hK; refine hK _ ?_; clear hK)
     | fail
    all_goals (repeat (clear hK))
    · exact congrArg _ (eqL_at hlt hlt' (by simpa using hb)).symm
    · refine ⟨k + 1, ⟨hlt, fun j hj hj' hjk => ?_⟩, by omega, le_of rfl (by simp [LeT, get, rT]) (by simp [LeT, get]) (by simp [LeK, memK])⟩
      by_cases e : j = k
      · subst e; simpa using hb
      · exact hk.2 j hj hj' (by omega)
  · have hd : decide ((k : Int) < (l.length : Int)) = false := by simpa using hlt
    repeat' first
     | with_reducible first | refine thenQ_n ?_ | refine thenQ_r ?_ | refine thenQ_e ?_ | refine blockQ_n ?_ | refine blockQ_r ?_ | refine blockQ_e ?_ | refine tri_seq fun K hK => ?_ | refine tri_skip ?_ | refine tri_ret ?_ | refine tri_exit ?_ | refine tri_block ?_ | refine tri_region ?_ | refine sq_nil ?_
     | refine blockQ_o ?_ (by rfl)
     | (with_reducible refine dr (id := 6) [0, 1, 2, 3, 4, 5, 6, 7, 8, 9] [] ?_)
     | ((first | with_reducible apply s_w | ((with_reducible apply d_w); (case ho => exact rfl))); (case hw => exact xWT); first | ((with_reducible first | apply sg_q | apply dg_q); (case hd => exact rfl); (case hn => exact rfl); (case he => (first | exact xE0 | ((with_reducible apply e_bi); (case hx => exact xDK); (case hy => exact xDK); (case hs => exact rfl); (case h => (simp only [binI, Int.reduceAdd, Int.reduceSub, Int.reduceMul, Int.reduceLT, Int.reduceLE, Int.reduceGT, Int.reduceEq, Int.reduceNeg, decide_true, decide_false, Bool.not_true, Bool.not_false, List.length_map, hd]; with_reducible rfl))) | ((with_reducible apply e_ix); (case hx => exact xDK); (case hi => exact xDK); (case ht => exact xTY); (case hz => exact rfl); (case he => (simp only [List.length_map, hd]; with_reducible rfl)); (case hc => exact xGS)) | ((with_reducible apply e_ln); (case hx => exact xDK); (case ht => exact xTY); (case hn => (first | (simp only [List.length_map, List.length_cons, List.length_nil, List.length_map, hd]; with_reducible rfl) | rfl))) | ((with_reducible apply e_nt); (case hx => exact xDK); (case h => (first | (simp only [Bool.not_true, Bool.not_false, List.length_map, hd]; with_reducible rfl) | rfl)))))) | (((with_reducible apply sg_bx); (case hn => exact rfl); (case hv => exact xLT); (case hc => exact xGS); (case hk => exact rfl))) | (((with_reducible apply sg_al); (case hn => exact rfl); (case hz => exact xTY); (case hc => exact xGS); (case hk => exact rfl))) | (((with_reducible apply sg_st); (case hx => exact xLK); (case hv => exact xLT); (case hc => exact xGS); (case hb => exact rfl); (case ht => exact xTY); (case hz => exact rfl); (case hs => exact xGS))) | (((with_reducible apply dg_al); (case hn => exact rfl); (case hz => exact xTY); (case hc => exact xGS))) | (((first | ((with_reducible apply sg_e); (case hc => (intros; simp))) | ((with_reducible apply dg_e); (case hd => exact rfl); (case hn => exact rfl))); (case hs => (simp only [go_sem, Nat.reduceBEq, Nat.reduceBNe, Nat.reduceLT, Nat.reduceGT, Int.reduceGT, Int.reduceMul, Int.reduceAdd, Int.reduceSub, Nat.reduceAdd, Nat.reduceMul, Nat.reduceLeDiff, Nat.reduceEqDiff, Nat.reduceSub, Int.reduceNeg, Int.reduceToNat, Int.reduceLT, Int.reduceLE, Int.reduceEq, Int.cast_ofNat_Int, decide_true, decide_false, Bool.not_true, Bool.not_false, Bool.and_self, reduceIte, reduceCtorEq, List.length_map, hd]; with_reducible rfl)))))
     | ((first | with_reducible apply s_n | ((with_reducible apply d_n); (case ho => exact rfl))); (case hw => exact xWF); (case hd => exact rfl); (case hn => exact rfl))
     | ((with_reducible refine dq_nil ?_); apply d_end; (case hd => kernel_rfl); (case ht => exact xGS); (case hb => exact xGS); (case hk => exact xGS))
     | ((with_reducible apply qs_ct); (case hc => exact xLK); (case he => exact xHB))
     | ((with_reducible apply qs_cf); (case hc => exact xLK); (case he => exact xHB))
     | ((with_reducible apply qs_cond); (case hc => exact xLK); (case hu => exact xUK); all_goals (intro hb))
     | ((first | with_reducible apply s_if | ((with_reducible apply d_if); (case ho => exact rfl))); (case hg => exact rfl); (case hd => exact rfl); (case he => exact rfl); (case hu => exact xUK); all_goals (intro hb))
     | ((first | apply post_r | apply post_a); (case h1 => first | exact r1_t rfl rfl | (simp only [go_sem, Nat.reduceBEq, Nat.reduceBNe, Nat.reduceLT, Nat.reduceGT, Int.reduceGT, Int.reduceMul, Int.reduceAdd, Int.reduceSub, Nat.reduceAdd, Nat.reduceMul, Nat.reduceLeDiff, Nat.reduceEqDiff, Nat.reduceSub, Int.reduceNeg, Int.reduceToNat, Int.reduceLT, Int.reduceLE, Int.reduceEq, Int.cast_ofNat_Int, decide_true, decide_false, Bool.not_true, Bool.not_false, Bool.and_self, reduceIte, reduceCtorEq, List.length_map, hd]; with_reducible rfl)); (case he => simp))
     | (refine hK _ ?_; clear hK)
     | (clear hK; refine hK _ ?_; clear hK)
     | (clear hK; clear hK; refine hK _ ?_; clear hK)
     | (clear hK; clear hK; clear hK; refine hK _ ?_; clear hK)
     | (clear hK; clear hK; clear hK; clear hK; refine hK _ ?_; clear hK)
     | fail
    all_goals (repeat (clear hK))
    exact congrArg _ (eqL_all he fun j hj hj' => hk.2 j hj hj' (by omega)).symm

end Go.Proofs.Ytigkkfhpnfjmhaa.AL
