/- Contracts: which predicates may be: the fields; searching. -/
import Derived.Test.YtekdlkjonihglaaYF8
import Derived.Test.YtekdlkjonihglaaYAS2
namespace Go.Proofs.Ytekdlkjonihglaa.AL
open Go
set_option linter.unusedVariables false
set_option linter.unusedSimpArgs false
set_option maxRecDepth 4000
def idxG {α : Type} (g : α → Bool) (l : List α) : Int := match l.findIdx? g with | some k => (k : Int) | none => -1
theorem idxG_hit {α : Type} {g : α → Bool} {l : List α} {k : Nat} (h : k < l.length) (hb : ∀ j (hj : j < l.length), j < k → g l[j] = false) (hg : g l[k] = true) : (k : Int) = idxG g l := by
  have : l.findIdx? g = some k := by
    rw [List.findIdx?_eq_some_iff_getElem]
    exact ⟨h, hg, fun j hj => by simp [hb j (by omega) hj]⟩
  simp [idxG, this]
theorem idxG_miss {α : Type} {g : α → Bool} {l : List α} (hb : ∀ j (hj : j < l.length), g l[j] = false) : -1 = idxG g l := by
  have : l.findIdx? g = none := by
    rw [List.findIdx?_eq_none_iff]
    intro x hx
    obtain ⟨j, hj, rfl⟩ := List.getElem_of_mem hx
    simp [hb j hj]
  simp [idxG, this]
theorem idxG_any {α : Type} (g : α → Bool) (l : List α) : decide (0 ≤ idxG g l) = l.any g := by
  unfold idxG
  cases h : l.findIdx? g with
  | none =>
    rw [List.findIdx?_eq_none_iff] at h
    have : l.any g = false := by rw [List.any_eq_false]; intro x hx; simp [h x hx]
    simp [this]
  | some k =>
    rw [List.findIdx?_eq_some_iff_getElem] at h
    obtain ⟨h1, h2, _⟩ := h
    have : l.any g = true := by rw [List.any_eq_true]; exact ⟨_, List.getElem_mem h1, h2⟩
    simp [this]
def trm0 (t : Trm) : Bool := trmEqF t ⟨0, 0, 0, ⟨false, 0⟩⟩
def bareF (p : Prd) : Bool := decide (p.kind = 1 ∨ p.truth = 0) && (decide (p.kind = 2 ∨ p.op = 0) && ((decide (p.kind = 2 ∨ p.kind = 3) || trm0 p.a) && (decide (p.kind = 2) || trm0 p.b)))

set_option maxHeartbeats 4000000 in
theorem c_indexP {f : FuncId} {cs : List AV} {g : Prd → Bool} (l : List Prd) (h : ∀ x ∈ l, FC Try.prog f (x.e :: cs) (.v (.bool (g x)))) : FC Try.prog 104 [prdsE l, .fn f cs] (.v (.int .i64 (idxG g l))) := by
  refine fc_of_body (nt := 19) (rs := [.tmp 4]) (ts := [(0, _), (1, _)]) Try.func104 rfl rfl rfl rfl (by decide) (Nat.le_of_ble_eq_true rfl) ?_
  repeat' first
   | with_reducible first | refine thenQ_n ?_ | refine thenQ_r ?_ | refine thenQ_e ?_ | refine blockQ_n ?_ | refine blockQ_r ?_ | refine blockQ_e ?_ | refine tri_seq fun K hK => ?_ | refine tri_skip ?_ | refine tri_ret ?_ | refine tri_exit ?_ | refine tri_block ?_ | refine tri_region ?_ | refine sq_nil ?_
   | refine blockQ_o ?_ (by rfl)
   | ((with_reducible apply s_w); (case hw => exact xWT); first | ((with_reducible apply sg_q); (case hd => exact rfl); (case hn => exact rfl); (case he => (first | exact xE0 | ((with_reducible apply e_bi); (case hx => exact xDK); (case hy => exact xDK); (case hs => exact rfl); (case h => (simp only [binI, Int.reduceAdd, Int.reduceSub, Int.reduceMul, Int.reduceLT, Int.reduceLE, Int.reduceGT, Int.reduceEq, Int.reduceNeg, decide_true, decide_false, Bool.not_true, Bool.not_false]; with_reducible rfl))) | ((with_reducible apply e_ix); (case hx => exact xDK); (case hi => exact xDK); (case ht => exact xTY); (case hz => exact rfl); (case he => (simp only [go_sem]; with_reducible rfl)); (case hc => exact xGS)) | ((with_reducible apply e_ln); (case hx => exact xDK); (case ht => exact xTY); (case hn => (first | (simp only [List.length_map, List.length_cons, List.length_nil]; with_reducible rfl) | rfl))) | ((with_reducible apply e_nt); (case hx => exact xDK); (case h => (first | (simp only [Bool.not_true, Bool.not_false]; with_reducible rfl) | rfl)))))) | (((with_reducible apply sg_bx); (case hn => exact rfl); (case hv => exact xLT); (case hc => exact xGS); (case hk => exact rfl))) | (((with_reducible apply sg_al); (case hn => exact rfl); (case hz => exact xTY); (case hc => exact xGS); (case hk => exact rfl))) | (((with_reducible apply sg_st); (case hx => exact xLK); (case hv => exact xLT); (case hc => exact xGS); (case hb => exact rfl); (case ht => exact xTY); (case hz => exact rfl); (case hs => exact xGS))) | (((with_reducible apply sg_e); (case hc => (intros; simp)); (case hs => (simp only [go_sem, Nat.reduceBEq, Nat.reduceBNe, Nat.reduceLT, Nat.reduceGT, Int.reduceGT, Int.reduceMul, Int.reduceAdd, Int.reduceSub, Nat.reduceAdd, Nat.reduceMul, Nat.reduceLeDiff, Nat.reduceEqDiff, Nat.reduceSub, Int.reduceNeg, Int.reduceToNat, Int.reduceLT, Int.reduceLE, Int.reduceEq, Int.cast_ofNat_Int, decide_true, decide_false, Bool.not_true, Bool.not_false, Bool.and_self, reduceIte, reduceCtorEq]; with_reducible rfl)))))
   | ((with_reducible apply s_n); (case hw => exact xWF); (case hd => exact rfl); (case hn => exact rfl))
   | ((with_reducible apply qs_ct); (case hc => exact xLK); (case he => exact xHB))
   | ((with_reducible apply qs_cf); (case hc => exact xLK); (case he => exact xHB))
   | ((with_reducible apply qs_cond); (case hc => exact xLK); (case hu => exact xUK); all_goals (intro hb))
   | ((with_reducible apply s_if); (case hg => exact rfl); (case hd => exact rfl); (case he => exact rfl); (case hu => exact xUK); all_goals (intro hb))
   | ((first | apply post_r | apply post_a); (case h1 => first | exact r1_t rfl rfl | (simp only [go_sem, Nat.reduceBEq, Nat.reduceBNe, Nat.reduceLT, Nat.reduceGT, Int.reduceGT, Int.reduceMul, Int.reduceAdd, Int.reduceSub, Nat.reduceAdd, Nat.reduceMul, Nat.reduceLeDiff, Nat.reduceEqDiff, Nat.reduceSub, Int.reduceNeg, Int.reduceToNat, Int.reduceLT, Int.reduceLE, Int.reduceEq, Int.cast_ofNat_Int, decide_true, decide_false, Bool.not_true, Bool.not_false, Bool.and_self, reduceIte, reduceCtorEq]; with_reducible rfl)); (case he => simp))
   | (refine hK _ ?_; clear hK)
   | (clear hK; refine hK _ ?_; clear hK)
   | (clear hK; clear hK; refine hK _ ?_; clear hK)
   | (clear hK; clear hK; clear hK; refine hK _ ?_; clear hK)
   | (clear hK; clear hK; clear hK; clear hK; refine hK _ ?_; clear hK)
   | fail
  refine tri_len 0 (sz := 14) (xs := l.map Prd.e) rfl fun hm => ?_
  rw [List.length_map] at hm
  refine tri_for (fun k : Nat => ⟨19, [(8, .v (.int .i64 (k : Int))), (7, .v (.int .i64 (l.length : Int))), (6, .v (prdsE l)), (1, .v (.fn f cs)), (0, .v (prdsE l))], [], []⟩) (fun k => k ≤ l.length ∧ ∀ j (hj : j < l.length), j < k → g l[j] = false) (fun k => l.length - k) 0 ?_ ⟨Nat.zero_le _, fun j _ h => absurd h (by omega)⟩ ?_
  · exact le_of rfl (by simp [LeT, get]) (by simp [LeT, get]) (by simp [LeK, memK])
  intro k hk
  by_cases hlt : k < l.length
  · have hd : decide ((k : Int) < ((l.length : Nat) : Int)) = true := by simpa using hlt
    have hw := wrap_succ hlt hm
    have hck := h l[k] (List.getElem_mem hlt)
    simp only [Prd.e_eq] at hck
    repeat' first
     | with_reducible first | refine thenQ_n ?_ | refine thenQ_r ?_ | refine thenQ_e ?_ | refine blockQ_n ?_ | refine blockQ_r ?_ | refine blockQ_e ?_ | refine tri_seq fun K hK => ?_ | refine tri_skip ?_ | refine tri_ret ?_ | refine tri_exit ?_ | refine tri_block ?_ | refine tri_region ?_ | refine sq_nil ?_
     | refine blockQ_o ?_ (by rfl)
     | ((with_reducible apply s_w); (case hw => exact xWT); first | ((with_reducible apply sg_q); (case hd => exact rfl); (case hn => exact rfl); (case he => (first | exact xE0 | ((with_reducible apply e_bi); (case hx => exact xDK); (case hy => exact xDK); (case hs => exact rfl); (case h => (simp only [binI, Int.reduceAdd, Int.reduceSub, Int.reduceMul, Int.reduceLT, Int.reduceLE, Int.reduceGT, Int.reduceEq, Int.reduceNeg, decide_true, decide_false, Bool.not_true, Bool.not_false, List.length_map, hd, hw, ixA_map hlt]; with_reducible rfl))) | ((with_reducible apply e_ix); (case hx => exact xDK); (case hi => exact xDK); (case ht => exact xTY); (case hz => exact rfl); (case he => (simp only [List.length_map, hd, hw, ixA_map hlt]; with_reducible rfl)); (case hc => exact xGS)) | ((with_reducible apply e_ln); (case hx => exact xDK); (case ht => exact xTY); (case hn => (first | (simp only [List.length_map, List.length_cons, List.length_nil, List.length_map, hd, hw, ixA_map hlt]; with_reducible rfl) | rfl))) | ((with_reducible apply e_nt); (case hx => exact xDK); (case h => (first | (simp only [Bool.not_true, Bool.not_false, List.length_map, hd, hw, ixA_map hlt]; with_reducible rfl) | rfl)))))) | (((with_reducible apply sg_k); (case ha => exact xDA); (case hfc => ((try simp only [List.length_map, hd, hw, ixA_map hlt]); first | exact hck | (have hq_ := hck; simp only [Prd.e_eq, Trm.e, Val.e, Col.e, Tre.e_eq] at hq_; exact hq_))); (case hr => exact xRT))) | ((with_reducible apply sg_kv); (case hv => exact rfl); (case ha => exact xDA); (case hl => exact xLs); (case hfc => ((try simp only [List.length_map, hd, hw, ixA_map hlt]); first | exact hck | (have hq_ := hck; simp only [Prd.e_eq, Trm.e, Val.e, Col.e, Tre.e_eq] at hq_; exact hq_))); (case hr => exact xRT)) | (((with_reducible apply sg_bx); (case hn => exact rfl); (case hv => exact xLT); (case hc => exact xGS); (case hk => exact rfl))) | (((with_reducible apply sg_al); (case hn => exact rfl); (case hz => exact xTY); (case hc => exact xGS); (case hk => exact rfl))) | (((with_reducible apply sg_st); (case hx => exact xLK); (case hv => exact xLT); (case hc => exact xGS); (case hb => exact rfl); (case ht => exact xTY); (case hz => exact rfl); (case hs => exact xGS))) | (((with_reducible apply sg_e); (case hc => (intros; simp)); (case hs => (simp only [go_sem, Nat.reduceBEq, Nat.reduceBNe, Nat.reduceLT, Nat.reduceGT, Int.reduceGT, Int.reduceMul, Int.reduceAdd, Int.reduceSub, Nat.reduceAdd, Nat.reduceMul, Nat.reduceLeDiff, Nat.reduceEqDiff, Nat.reduceSub, Int.reduceNeg, Int.reduceToNat, Int.reduceLT, Int.reduceLE, Int.reduceEq, Int.cast_ofNat_Int, decide_true, decide_false, Bool.not_true, Bool.not_false, Bool.and_self, reduceIte, reduceCtorEq, List.length_map, hd, hw, ixA_map hlt]; with_reducible rfl)))))
     | ((with_reducible apply s_n); (case hw => exact xWF); (case hd => exact rfl); (case hn => exact rfl))
     | ((with_reducible apply qs_ct); (case hc => exact xLK); (case he => exact xHB))
     | ((with_reducible apply qs_cf); (case hc => exact xLK); (case he => exact xHB))
     | ((with_reducible apply qs_cond); (case hc => exact xLK); (case hu => exact xUK); all_goals (intro hb))
     | ((with_reducible apply s_if); (case hg => exact rfl); (case hd => exact rfl); (case he => exact rfl); (case hu => exact xUK); all_goals (intro hb))
     | ((first | apply post_r | apply post_a); (case h1 => first | exact r1_t rfl rfl | (simp only [go_sem, Nat.reduceBEq, Nat.reduceBNe, Nat.reduceLT, Nat.reduceGT, Int.reduceGT, Int.reduceMul, Int.reduceAdd, Int.reduceSub, Nat.reduceAdd, Nat.reduceMul, Nat.reduceLeDiff, Nat.reduceEqDiff, Nat.reduceSub, Int.reduceNeg, Int.reduceToNat, Int.reduceLT, Int.reduceLE, Int.reduceEq, Int.cast_ofNat_Int, decide_true, decide_false, Bool.not_true, Bool.not_false, Bool.and_self, reduceIte, reduceCtorEq, List.length_map, hd, hw, ixA_map hlt]; with_reducible rfl)); (case he => simp))
     | (refine hK _ ?_; clear hK)
     | (clear hK; refine hK _ ?_; clear hK)
     | (clear hK; clear hK; refine hK _ ?_; clear hK)
     | (clear hK; clear hK; clear hK; refine hK _ ?_; clear hK)
     | (clear hK; clear hK; clear hK; clear hK; refine hK _ ?_; clear hK)
     | fail
    all_goals (repeat (clear hK))
    · exact congrArg _ (idxG_hit hlt hk.2 hb)
    · refine ⟨k + 1, ⟨hlt, fun j hj hjk => ?_⟩, by omega, le_of rfl (by simp [LeT, get]) (by simp [LeT, get]) (by simp [LeK, memK])⟩
      by_cases e : j = k
      · subst e; exact hb
      · exact hk.2 j hj (by omega)
  · have hd : decide ((k : Int) < ((l.length : Nat) : Int)) = false := by simpa using hlt
    repeat' first
     | with_reducible first | refine thenQ_n ?_ | refine thenQ_r ?_ | refine thenQ_e ?_ | refine blockQ_n ?_ | refine blockQ_r ?_ | refine blockQ_e ?_ | refine tri_seq fun K hK => ?_ | refine tri_skip ?_ | refine tri_ret ?_ | refine tri_exit ?_ | refine tri_block ?_ | refine tri_region ?_ | refine sq_nil ?_
     | refine blockQ_o ?_ (by rfl)
     | ((with_reducible apply s_w); (case hw => exact xWT); first | ((with_reducible apply sg_q); (case hd => exact rfl); (case hn => exact rfl); (case he => (first | exact xE0 | ((with_reducible apply e_bi); (case hx => exact xDK); (case hy => exact xDK); (case hs => exact rfl); (case h => (simp only [binI, Int.reduceAdd, Int.reduceSub, Int.reduceMul, Int.reduceLT, Int.reduceLE, Int.reduceGT, Int.reduceEq, Int.reduceNeg, decide_true, decide_false, Bool.not_true, Bool.not_false, List.length_map, hd]; with_reducible rfl))) | ((with_reducible apply e_ix); (case hx => exact xDK); (case hi => exact xDK); (case ht => exact xTY); (case hz => exact rfl); (case he => (simp only [List.length_map, hd]; with_reducible rfl)); (case hc => exact xGS)) | ((with_reducible apply e_ln); (case hx => exact xDK); (case ht => exact xTY); (case hn => (first | (simp only [List.length_map, List.length_cons, List.length_nil, List.length_map, hd]; with_reducible rfl) | rfl))) | ((with_reducible apply e_nt); (case hx => exact xDK); (case h => (first | (simp only [Bool.not_true, Bool.not_false, List.length_map, hd]; with_reducible rfl) | rfl)))))) | (((with_reducible apply sg_bx); (case hn => exact rfl); (case hv => exact xLT); (case hc => exact xGS); (case hk => exact rfl))) | (((with_reducible apply sg_al); (case hn => exact rfl); (case hz => exact xTY); (case hc => exact xGS); (case hk => exact rfl))) | (((with_reducible apply sg_st); (case hx => exact xLK); (case hv => exact xLT); (case hc => exact xGS); (case hb => exact rfl); (case ht => exact xTY); (case hz => exact rfl); (case hs => exact xGS))) | (((with_reducible apply sg_e); (case hc => (intros; simp)); (case hs => (simp only [go_sem, Nat.reduceBEq, Nat.reduceBNe, Nat.reduceLT, Nat.reduceGT, Int.reduceGT, Int.reduceMul, Int.reduceAdd, Int.reduceSub, Nat.reduceAdd, Nat.reduceMul, Nat.reduceLeDiff, Nat.reduceEqDiff, Nat.reduceSub, Int.reduceNeg, Int.reduceToNat, Int.reduceLT, Int.reduceLE, Int.reduceEq, Int.cast_ofNat_Int, decide_true, decide_false, Bool.not_true, Bool.not_false, Bool.and_self, reduceIte, reduceCtorEq, List.length_map, hd]; with_reducible rfl)))))
     | ((with_reducible apply s_n); (case hw => exact xWF); (case hd => exact rfl); (case hn => exact rfl))
     | ((with_reducible apply qs_ct); (case hc => exact xLK); (case he => exact xHB))
     | ((with_reducible apply qs_cf); (case hc => exact xLK); (case he => exact xHB))
     | ((with_reducible apply qs_cond); (case hc => exact xLK); (case hu => exact xUK); all_goals (intro hb))
     | ((with_reducible apply s_if); (case hg => exact rfl); (case hd => exact rfl); (case he => exact rfl); (case hu => exact xUK); all_goals (intro hb))
     | ((first | apply post_r | apply post_a); (case h1 => first | exact r1_t rfl rfl | (simp only [go_sem, Nat.reduceBEq, Nat.reduceBNe, Nat.reduceLT, Nat.reduceGT, Int.reduceGT, Int.reduceMul, Int.reduceAdd, Int.reduceSub, Nat.reduceAdd, Nat.reduceMul, Nat.reduceLeDiff, Nat.reduceEqDiff, Nat.reduceSub, Int.reduceNeg, Int.reduceToNat, Int.reduceLT, Int.reduceLE, Int.reduceEq, Int.cast_ofNat_Int, decide_true, decide_false, Bool.not_true, Bool.not_false, Bool.and_self, reduceIte, reduceCtorEq, List.length_map, hd]; with_reducible rfl)); (case he => simp))
     | (refine hK _ ?_; clear hK)
     | (clear hK; refine hK _ ?_; clear hK)
     | (clear hK; clear hK; refine hK _ ?_; clear hK)
     | (clear hK; clear hK; clear hK; refine hK _ ?_; clear hK)
     | (clear hK; clear hK; clear hK; clear hK; refine hK _ ?_; clear hK)
     | fail
    all_goals (repeat (clear hK))
    exact congrArg _ (idxG_miss fun j hj => hk.2 j hj (by omega))

set_option maxHeartbeats 4000000 in
theorem c_containsP {f : FuncId} {cs : List AV} {g : Prd → Bool} (l : List Prd) (h : ∀ x ∈ l, FC Try.prog f (x.e :: cs) (.v (.bool (g x)))) : FC Try.prog 83 [prdsE l, .fn f cs] (.v (.bool (l.any g))) := by
  refine fc_of_body (nt := 9) (rs := [.tmp 4]) (ts := [(0, _), (1, _)]) Try.func83 rfl rfl rfl rfl (by decide) (Nat.le_of_ble_eq_true rfl) ?_
  repeat' first
   | with_reducible first | refine thenQ_n ?_ | refine thenQ_r ?_ | refine thenQ_e ?_ | refine blockQ_n ?_ | refine blockQ_r ?_ | refine blockQ_e ?_ | refine tri_seq fun K hK => ?_ | refine tri_skip ?_ | refine tri_ret ?_ | refine tri_exit ?_ | refine tri_block ?_ | refine tri_region ?_ | refine sq_nil ?_
   | refine blockQ_o ?_ (by rfl)
   | ((with_reducible apply s_w); (case hw => exact xWT); first | ((with_reducible apply sg_q); (case hd => exact rfl); (case hn => exact rfl); (case he => (first | exact xE0 | ((with_reducible apply e_bi); (case hx => exact xDK); (case hy => exact xDK); (case hs => exact rfl); (case h => (simp only [binI, Int.reduceAdd, Int.reduceSub, Int.reduceMul, Int.reduceLT, Int.reduceLE, Int.reduceGT, Int.reduceEq, Int.reduceNeg, decide_true, decide_false, Bool.not_true, Bool.not_false]; with_reducible rfl))) | ((with_reducible apply e_ix); (case hx => exact xDK); (case hi => exact xDK); (case ht => exact xTY); (case hz => exact rfl); (case he => (simp only [go_sem]; with_reducible rfl)); (case hc => exact xGS)) | ((with_reducible apply e_ln); (case hx => exact xDK); (case ht => exact xTY); (case hn => (first | (simp only [List.length_map, List.length_cons, List.length_nil]; with_reducible rfl) | rfl))) | ((with_reducible apply e_nt); (case hx => exact xDK); (case h => (first | (simp only [Bool.not_true, Bool.not_false]; with_reducible rfl) | rfl)))))) | (((with_reducible apply sg_k); (case ha => exact xDA); (case hfc => (first | exact c_indexP l h | (have hq_ := c_indexP l h; simp only [Prd.e_eq, Trm.e, Val.e, Col.e, Tre.e_eq] at hq_; exact hq_))); (case hr => exact xRT))) | ((with_reducible apply sg_kv); (case hv => exact rfl); (case ha => exact xDA); (case hl => exact xLs); (case hfc => (first | exact c_indexP l h | (have hq_ := c_indexP l h; simp only [Prd.e_eq, Trm.e, Val.e, Col.e, Tre.e_eq] at hq_; exact hq_))); (case hr => exact xRT)) | (((with_reducible apply sg_bx); (case hn => exact rfl); (case hv => exact xLT); (case hc => exact xGS); (case hk => exact rfl))) | (((with_reducible apply sg_al); (case hn => exact rfl); (case hz => exact xTY); (case hc => exact xGS); (case hk => exact rfl))) | (((with_reducible apply sg_st); (case hx => exact xLK); (case hv => exact xLT); (case hc => exact xGS); (case hb => exact rfl); (case ht => exact xTY); (case hz => exact rfl); (case hs => exact xGS))) | (((with_reducible apply sg_e); (case hc => (intros; simp)); (case hs => (simp only [go_sem, Nat.reduceBEq, Nat.reduceBNe, Nat.reduceLT, Nat.reduceGT, Int.reduceGT, Int.reduceMul, Int.reduceAdd, Int.reduceSub, Nat.reduceAdd, Nat.reduceMul, Nat.reduceLeDiff, Nat.reduceEqDiff, Nat.reduceSub, Int.reduceNeg, Int.reduceToNat, Int.reduceLT, Int.reduceLE, Int.reduceEq, Int.cast_ofNat_Int, decide_true, decide_false, Bool.not_true, Bool.not_false, Bool.and_self, reduceIte, reduceCtorEq]; with_reducible rfl)))))
   | ((with_reducible apply s_n); (case hw => exact xWF); (case hd => exact rfl); (case hn => exact rfl))
   | ((with_reducible apply qs_ct); (case hc => exact xLK); (case he => exact xHB))
   | ((with_reducible apply qs_cf); (case hc => exact xLK); (case he => exact xHB))
   | ((with_reducible apply qs_cond); (case hc => exact xLK); (case hu => exact xUK); all_goals (intro hb))
   | ((with_reducible apply s_if); (case hg => exact rfl); (case hd => exact rfl); (case he => exact rfl); (case hu => exact xUK); all_goals (intro hb))
   | ((first | apply post_r | apply post_a); (case h1 => first | exact r1_t rfl rfl | (simp only [go_sem, Nat.reduceBEq, Nat.reduceBNe, Nat.reduceLT, Nat.reduceGT, Int.reduceGT, Int.reduceMul, Int.reduceAdd, Int.reduceSub, Nat.reduceAdd, Nat.reduceMul, Nat.reduceLeDiff, Nat.reduceEqDiff, Nat.reduceSub, Int.reduceNeg, Int.reduceToNat, Int.reduceLT, Int.reduceLE, Int.reduceEq, Int.cast_ofNat_Int, decide_true, decide_false, Bool.not_true, Bool.not_false, Bool.and_self, reduceIte, reduceCtorEq]; with_reducible rfl)); (case he => simp))
   | (refine hK _ ?_; clear hK)
   | (clear hK; refine hK _ ?_; clear hK)
   | (clear hK; clear hK; refine hK _ ?_; clear hK)
   | (clear hK; clear hK; clear hK; refine hK _ ?_; clear hK)
   | (clear hK; clear hK; clear hK; clear hK; refine hK _ ?_; clear hK)
   | fail
  all_goals (repeat (clear hK))
  exact congrArg _ (idxG_any _ _)

set_option maxHeartbeats 4000000 in
theorem c_bare (p : Prd) : FC Try.prog 80 [p.e] (.v (.bool (bareF p))) := by
  refine fc_of_body (nt := 41) (rs := [.tmp 2]) (ts := [(0, _)]) Try.func80 rfl rfl rfl rfl (by decide) (Nat.le_of_ble_eq_true rfl) ?_
  repeat' first
   | with_reducible first | refine thenQ_n ?_ | refine thenQ_r ?_ | refine thenQ_e ?_ | refine blockQ_n ?_ | refine blockQ_r ?_ | refine blockQ_e ?_ | refine tri_seq fun K hK => ?_ | refine tri_skip ?_ | refine tri_ret ?_ | refine tri_exit ?_ | refine tri_block ?_ | refine tri_region ?_ | refine sq_nil ?_
   | refine blockQ_o ?_ (by rfl)
   | ((with_reducible apply s_w); (case hw => exact xWT); first | ((with_reducible apply sg_q); (case hd => exact rfl); (case hn => exact rfl); (case he => (first | exact xE0 | ((with_reducible apply e_bi); (case hx => exact xDK); (case hy => exact xDK); (case hs => exact rfl); (case h => (simp only [binI, Int.reduceAdd, Int.reduceSub, Int.reduceMul, Int.reduceLT, Int.reduceLE, Int.reduceGT, Int.reduceEq, Int.reduceNeg, decide_true, decide_false, Bool.not_true, Bool.not_false]; with_reducible rfl))) | ((with_reducible apply e_ix); (case hx => exact xDK); (case hi => exact xDK); (case ht => exact xTY); (case hz => exact rfl); (case he => (simp only [go_sem]; with_reducible rfl)); (case hc => exact xGS)) | ((with_reducible apply e_ln); (case hx => exact xDK); (case ht => exact xTY); (case hn => (first | (simp only [List.length_map, List.length_cons, List.length_nil]; with_reducible rfl) | rfl))) | ((with_reducible apply e_nt); (case hx => exact xDK); (case h => (first | (simp only [Bool.not_true, Bool.not_false]; with_reducible rfl) | rfl)))))) | (((with_reducible apply sg_bx); (case hn => exact rfl); (case hv => exact xLT); (case hc => exact xGS); (case hk => exact rfl))) | (((with_reducible apply sg_al); (case hn => exact rfl); (case hz => exact xTY); (case hc => exact xGS); (case hk => exact rfl))) | (((with_reducible apply sg_st); (case hx => exact xLK); (case hv => exact xLT); (case hc => exact xGS); (case hb => exact rfl); (case ht => exact xTY); (case hz => exact rfl); (case hs => exact xGS))) | (((with_reducible apply sg_e); (case hc => (intros; simp)); (case hs => (simp only [go_sem, Nat.reduceBEq, Nat.reduceBNe, Nat.reduceLT, Nat.reduceGT, Int.reduceGT, Int.reduceMul, Int.reduceAdd, Int.reduceSub, Nat.reduceAdd, Nat.reduceMul, Nat.reduceLeDiff, Nat.reduceEqDiff, Nat.reduceSub, Int.reduceNeg, Int.reduceToNat, Int.reduceLT, Int.reduceLE, Int.reduceEq, Int.cast_ofNat_Int, decide_true, decide_false, Bool.not_true, Bool.not_false, Bool.and_self, reduceIte, reduceCtorEq]; with_reducible rfl)))))
   | ((with_reducible apply s_n); (case hw => exact xWF); (case hd => exact rfl); (case hn => exact rfl))
   | ((with_reducible apply qs_ct); (case hc => exact xLK); (case he => exact xHB))
   | ((with_reducible apply qs_cf); (case hc => exact xLK); (case he => exact xHB))
   | ((with_reducible apply qs_cond); (case hc => exact xLK); (case hu => exact xUK); all_goals (intro hb))
   | ((with_reducible apply s_if); (case hg => exact rfl); (case hd => exact rfl); (case he => exact rfl); (case hu => exact xUK); all_goals (intro hb))
   | ((first | apply post_r | apply post_a); (case h1 => first | exact r1_t rfl rfl | (simp only [go_sem, Nat.reduceBEq, Nat.reduceBNe, Nat.reduceLT, Nat.reduceGT, Int.reduceGT, Int.reduceMul, Int.reduceAdd, Int.reduceSub, Nat.reduceAdd, Nat.reduceMul, Nat.reduceLeDiff, Nat.reduceEqDiff, Nat.reduceSub, Int.reduceNeg, Int.reduceToNat, Int.reduceLT, Int.reduceLE, Int.reduceEq, Int.cast_ofNat_Int, decide_true, decide_false, Bool.not_true, Bool.not_false, Bool.and_self, reduceIte, reduceCtorEq]; with_reducible rfl)); (case he => simp))
   | (refine hK _ ?_; clear hK)
   | (clear hK; refine hK _ ?_; clear hK)
   | (clear hK; clear hK; refine hK _ ?_; clear hK)
   | (clear hK; clear hK; clear hK; refine hK _ ?_; clear hK)
   | (clear hK; clear hK; clear hK; clear hK; refine hK _ ?_; clear hK)
   | fail
  all_goals (repeat (clear hK))
  all_goals (refine congrArg _ (Eq.symm ?_))
  all_goals first | (simp_all [bareF, trm0, trmEqF]; done) | grind [bareF, trm0, trmEqF]

end Go.Proofs.Ytekdlkjonihglaa.AL
