/- Contracts: the parts of a set. -/
import Derived.Test.YtceleegbbclajaaDoorYT5
namespace Go.Proofs.YtceleegbbclajaaDoor.AL
open Go
set_option linter.unusedVariables false
set_option linter.unusedSimpArgs false
set_option maxRecDepth 4000
theorem roundQ_e {n id : Nat} {t0 : List (Nat × TV)} {Nx : List (Nat × List TV) → List Nat → Prop} {Q : Exit → AS → Prop} {s σ1 : AS} (h : (AS.mk n t0 s.b s.k).down = σ1) (hq : Q (.exit id) σ1) : roundQ n t0 Nx Q (.exit id) s := by
  subst h; exact hq
abbrev wordsE (l : List Nat) : AV := .sl 1 (l.map fun (i : Nat) => AV.int .u64 (i : Int))
def nP (s : Nat) : Nat := 2 ^ (membs s).length
def prtN (s k : Nat) : Nat := prt (digs s 64) k
def prtsL (s : Nat) : List Nat := (List.range (nP s - 1)).map fun j => prtN s (j + 1)
def nxtP (s k : Nat) : Nat := if k + 1 < nP s then prtN s (k + 1) else 0
theorem nP_cnt (s : Nat) : nP s = 2 ^ cntB (digs s 64) := by
  have : cntB (digs s 64) = (membs s).length := cntB_map s.testBit (List.range 64)
  rw [this]; rfl
theorem nP_pos (s : Nat) : 0 < nP s := Nat.pos_of_ne_zero (by simp [nP])
theorem valB_s {s : Nat} (hs : s < 18446744073709551616) : valB (digs s 64) = s := by rw [valB_digs, pow64, Nat.mod_eq_of_lt hs]
theorem prtN_le {s : Nat} (hs : s < 18446744073709551616) (k : Nat) : prtN s k ≤ s := by have := prt_le (digs s 64) k; rwa [valB_s hs] at this
theorem prtN_zero (s : Nat) : prtN s 0 = 0 := prt_zero _
theorem prtN_lt {s n m : Nat} (h : n < m) (hm : m < nP s) : prtN s n < prtN s m := prt_lt h (by rw [← nP_cnt]; exact hm)
theorem prtN_last {s : Nat} (hs : s < 18446744073709551616) : prtN s (nP s - 1) = s := by
  have := prt_last (digs s 64)
  rwa [valB_s hs, ← nP_cnt] at this
theorem prtsL_len (s : Nat) : (prtsL s).length = nP s - 1 := by simp [prtsL]
theorem prtsL_at {s k : Nat} (h : k < (prtsL s).length) : (prtsL s)[k] = prtN s (k + 1) := by simp [prtsL]
theorem nxt_word {s k : Nat} (hs : s < 18446744073709551616) (hk : k < nP s) : bits .and .u64 (IntKind.u64.wrap ((prtN s k : Int) - (s : Int))) (s : Int) = ((nxtP s k : Nat) : Int) := by
  unfold nxtP
  by_cases h : k + 1 < nP s
  · rw [if_pos h]
    have hle := prtN_le hs k
    have hlt : prtN s k < s := by
      have h1 := prtN_lt (s := s) (n := k) (m := nP s - 1) (by omega) (by omega)
      rwa [prtN_last hs] at h1
    have hn := prt_next (digs s 64) k (by rw [← nP_cnt]; exact h)
    rw [valB_s hs, digs_len, pow64] at hn
    have hw : IntKind.u64.wrap ((prtN s k : Int) - (s : Int)) = ((18446744073709551616 - (s - prtN s k) : Nat) : Int) := by rw [IntKind.wrap_u64]; omega
    rw [hw, u64_and_nat _ _ (by omega) hs]
    exact congrArg (fun n : Nat => (n : Int)) hn
  · rw [if_neg h]
    have hl := prtN_last hs
    rw [show nP s - 1 = k by omega] at hl
    rw [hl, Int.sub_self, show IntKind.u64.wrap 0 = ((0 : Nat) : Int) by rfl, u64_and_nat 0 s (by omega) hs, Nat.zero_and]
theorem nxt_first {s : Nat} (hs : s < 18446744073709551616) : bits .and .u64 (IntKind.u64.wrap (0 - (s : Int))) (s : Int) = ((nxtP s 0 : Nat) : Int) := by
  have := nxt_word hs (nP_pos s)
  rw [prtN_zero] at this
  exact this

set_option maxHeartbeats 4000000 in
theorem c_parts1 (s : Nat) (hs : s < 18446744073709551616) : IC Tryd.prog 31 [.ro [.int .u64 (s : Int)]] ((prtsL s).map fun (i : Nat) => [AV.int .u64 (i : Int)]) := by
  refine ic_of_body (nt := 19) Tryd.func31 rfl rfl rfl rfl (Nat.le_of_ble_eq_true rfl) fun y J hJ hY => ?_
  show TriY Tryd.prog J (fun _ => none) _ (some 0) ⟨19, [(0, _), (1, _)], [], []⟩ _
  have hf := nxt_first hs
  repeat' first
    | with_reducible refine thenY_n ?_
    | with_reducible refine thenY_r ?_
    | with_reducible refine thenY_e ?_
    | with_reducible refine blkY_n ?_
    | with_reducible refine blkY_r ?_
    | with_reducible refine blkY_e ?_
    | with_reducible refine ty_seq ?_
    | with_reducible refine ty_skip ?_
    | with_reducible refine ty_exit ?_
    | with_reducible refine ty_ret ?_
    | with_reducible refine ty_block ?_
    | with_reducible refine ty_region ?_
    | with_reducible refine oy_nil ?_
    | refine blkY_o ?_ (by rfl)
    | ((with_reducible apply oy_w); (case hJ => assumption); (case hw => exact xWT); first | ((with_reducible apply sg_q); (case hd => exact rfl); (case hn => exact rfl); (case he => (first | exact xE0 | ((with_reducible apply e_bi); (case hx => exact xDK); (case hy => exact xDK); (case hs => exact rfl); (case h => (simp only [binI, Int.reduceAdd, Int.reduceSub, Int.reduceMul, Int.reduceLT, Int.reduceLE, Int.reduceGT, Int.reduceEq, Int.reduceNeg, decide_true, decide_false, Bool.not_true, Bool.not_false, hf]; with_reducible rfl))) | ((with_reducible apply e_ix); (case hx => exact xDK); (case hi => exact xDK); (case ht => exact xTY); (case hz => exact rfl); (case he => (simp only [hf]; with_reducible rfl)); (case hc => exact xGS)) | ((with_reducible apply e_ln); (case hx => exact xDK); (case ht => exact xTY); (case hn => (first | (simp only [List.length_map, List.length_cons, List.length_nil, hf]; with_reducible rfl) | rfl))) | ((with_reducible apply e_nt); (case hx => exact xDK); (case h => (first | (simp only [Bool.not_true, Bool.not_false, hf]; with_reducible rfl) | rfl)))))) | (((with_reducible apply sg_nil); (case hn => exact rfl); (case hx => exact xDK); (case ht => exact xTY); intro β hβ)) | (((with_reducible apply sg_fnil); (case hn => exact rfl); (case hx => exact xDK); (case ht => exact Tryd.underlying40))) | (((with_reducible apply sg_bx); (case hn => exact rfl); (case hv => exact xLT); (case hc => exact xGS); (case hk => exact rfl))) | (((with_reducible apply sg_al); (case hn => exact rfl); (case hz => exact xTY); (case hc => exact xGS); (case hk => exact rfl))) | (((with_reducible apply sg_st); (case hx => exact xLK); (case hv => exact xLT); (case hc => exact xGS); (case hb => exact rfl); (case ht => exact xTY); (case hz => exact rfl); (case hs => exact xGS))) | (((with_reducible apply sg_e); (case hc => (intros; simp)); (case hs => (simp only [go_sem, Nat.reduceBEq, Nat.reduceBNe, Nat.reduceLT, Nat.reduceGT, Int.reduceGT, Int.reduceMul, Int.reduceAdd, Int.reduceSub, Nat.reduceAdd, Nat.reduceMul, Nat.reduceLeDiff, Nat.reduceEqDiff, Nat.reduceSub, Int.reduceNeg, Int.reduceToNat, Int.reduceLT, Int.reduceLE, Int.reduceEq, Int.cast_ofNat_Int, decide_true, decide_false, Bool.not_true, Bool.not_false, Bool.and_self, reduceIte, reduceCtorEq, hf]; with_reducible rfl)))))
    | ((with_reducible apply oy_n); (case hw => exact xWF); (case hd => exact rfl); (case hn => exact rfl))
    | ((with_reducible apply qy_ct); (case hc => exact xLK); (case he => exact xHB))
    | ((with_reducible apply qy_cf); (case hc => exact xLK); (case he => exact xHB))
    | ((with_reducible apply qy_cond); (case hc => exact xLK); (case hu => exact xUK); all_goals (intro hb))
    | ((with_reducible apply oy_if); (case hg => exact rfl); (case hd => exact rfl); (case he => exact rfl); (case hu => exact xUK); all_goals (intro hb))
    | fail
  refine ty_for (fun k : Nat => ⟨19, [(3, .v (.int .u64 (nxtP s k : Int))), (1, .v (.ro [.int .u64 (s : Int)])), (0, .v (.yld y))], [], []⟩)
    (fun k => some k) (fun k => k < nP s) (fun k => nP s - k) 0 rfl ?_ (nP_pos s) ?_
  · exact le_of rfl (by simp [LeT, get]) (by simp [LeT, get]) (by simp [LeK, memK])
  intro k hk
  by_cases hlt : k + 1 < nP s
  · have hx : nxtP s k = prtN s (k + 1) := by unfold nxtP; rw [if_pos hlt]
    have hpos := prtN_lt (s := s) (n := 0) (m := k + 1) (by omega) hlt
    have hd : decide ((nxtP s k : Int) = 0) = false := by rw [hx]; simp; omega
    have hi : ∃ h : k < ((prtsL s).map fun (i : Nat) => [AV.int .u64 (i : Int)]).length, ((prtsL s).map fun (i : Nat) => [AV.int .u64 (i : Int)])[k] = [.int .u64 (nxtP s k : Int)] :=
      ⟨by rw [List.length_map, prtsL_len]; omega, by rw [List.getElem_map, prtsL_at, hx]⟩
    have hn := nxt_word hs hlt
    rw [← hx] at hn
    repeat' first
      | with_reducible refine thenY_n ?_
      | with_reducible refine thenY_r ?_
      | with_reducible refine thenY_e ?_
      | with_reducible refine blkY_n ?_
      | with_reducible refine blkY_r ?_
      | with_reducible refine blkY_e ?_
      | with_reducible refine ty_seq ?_
      | with_reducible refine ty_skip ?_
      | with_reducible refine ty_exit ?_
      | with_reducible refine ty_ret ?_
      | with_reducible refine ty_block ?_
      | with_reducible refine ty_region ?_
      | with_reducible refine oy_nil ?_
      | refine blkY_o ?_ (by rfl)
      | ((with_reducible apply oy_y); (case hJ => assumption); (case hY => exact hY); (case hw => exact xWT); (case hn => exact rfl); (case hf => exact rfl); (case ha => exact xDA); (case hi => exact hi))
      | ((with_reducible apply oy_w); (case hJ => assumption); (case hw => exact xWT); first | ((with_reducible apply sg_q); (case hd => exact rfl); (case hn => exact rfl); (case he => (first | exact xE0 | ((with_reducible apply e_bi); (case hx => exact xDK); (case hy => exact xDK); (case hs => exact rfl); (case h => (simp only [binI, Int.reduceAdd, Int.reduceSub, Int.reduceMul, Int.reduceLT, Int.reduceLE, Int.reduceGT, Int.reduceEq, Int.reduceNeg, decide_true, decide_false, Bool.not_true, Bool.not_false, hd, hn]; with_reducible rfl))) | ((with_reducible apply e_ix); (case hx => exact xDK); (case hi => exact xDK); (case ht => exact xTY); (case hz => exact rfl); (case he => (simp only [hd, hn]; with_reducible rfl)); (case hc => exact xGS)) | ((with_reducible apply e_ln); (case hx => exact xDK); (case ht => exact xTY); (case hn => (first | (simp only [List.length_map, List.length_cons, List.length_nil, hd, hn]; with_reducible rfl) | rfl))) | ((with_reducible apply e_nt); (case hx => exact xDK); (case h => (first | (simp only [Bool.not_true, Bool.not_false, hd, hn]; with_reducible rfl) | rfl)))))) | (((with_reducible apply sg_nil); (case hn => exact rfl); (case hx => exact xDK); (case ht => exact xTY); intro β hβ)) | (((with_reducible apply sg_fnil); (case hn => exact rfl); (case hx => exact xDK); (case ht => exact Tryd.underlying40))) | (((with_reducible apply sg_bx); (case hn => exact rfl); (case hv => exact xLT); (case hc => exact xGS); (case hk => exact rfl))) | (((with_reducible apply sg_al); (case hn => exact rfl); (case hz => exact xTY); (case hc => exact xGS); (case hk => exact rfl))) | (((with_reducible apply sg_st); (case hx => exact xLK); (case hv => exact xLT); (case hc => exact xGS); (case hb => exact rfl); (case ht => exact xTY); (case hz => exact rfl); (case hs => exact xGS))) | (((with_reducible apply sg_e); (case hc => (intros; simp)); (case hs => (simp only [go_sem, Nat.reduceBEq, Nat.reduceBNe, Nat.reduceLT, Nat.reduceGT, Int.reduceGT, Int.reduceMul, Int.reduceAdd, Int.reduceSub, Nat.reduceAdd, Nat.reduceMul, Nat.reduceLeDiff, Nat.reduceEqDiff, Nat.reduceSub, Int.reduceNeg, Int.reduceToNat, Int.reduceLT, Int.reduceLE, Int.reduceEq, Int.cast_ofNat_Int, decide_true, decide_false, Bool.not_true, Bool.not_false, Bool.and_self, reduceIte, reduceCtorEq, hd, hn]; with_reducible rfl)))))
      | ((with_reducible apply oy_n); (case hw => exact xWF); (case hd => exact rfl); (case hn => exact rfl))
      | ((with_reducible apply qy_ct); (case hc => exact xLK); (case he => exact xHB))
      | ((with_reducible apply qy_cf); (case hc => exact xLK); (case he => exact xHB))
      | ((with_reducible apply qy_cond); (case hc => exact xLK); (case hu => exact xUK); all_goals (intro hb))
      | ((with_reducible apply oy_if); (case hg => exact rfl); (case hd => exact rfl); (case he => exact rfl); (case hu => exact xUK); all_goals (intro hb))
      | fail
    · exact ⟨k + 1, hlt, by omega, rfl, le_of rfl (by simp [LeT, get]) (by simp [LeT, get]) (by simp [LeK, memK])⟩
    · exact ⟨.inr rfl, .inr rfl⟩
  · have hx : nxtP s k = 0 := by unfold nxtP; rw [if_neg hlt]
    have hd : decide ((nxtP s k : Int) = 0) = true := by rw [hx]; simp
    have hk2 : k = nP s - 1 := by omega
    repeat' first
      | with_reducible refine thenY_n ?_
      | with_reducible refine thenY_r ?_
      | with_reducible refine thenY_e ?_
      | with_reducible refine blkY_n ?_
      | with_reducible refine blkY_r ?_
      | with_reducible refine blkY_e ?_
      | with_reducible refine ty_seq ?_
      | with_reducible refine ty_skip ?_
      | with_reducible refine ty_exit ?_
      | with_reducible refine ty_ret ?_
      | with_reducible refine ty_block ?_
      | with_reducible refine ty_region ?_
      | with_reducible refine oy_nil ?_
      | refine blkY_o ?_ (by rfl)
      | ((with_reducible apply oy_w); (case hJ => assumption); (case hw => exact xWT); first | ((with_reducible apply sg_q); (case hd => exact rfl); (case hn => exact rfl); (case he => (first | exact xE0 | ((with_reducible apply e_bi); (case hx => exact xDK); (case hy => exact xDK); (case hs => exact rfl); (case h => (simp only [binI, Int.reduceAdd, Int.reduceSub, Int.reduceMul, Int.reduceLT, Int.reduceLE, Int.reduceGT, Int.reduceEq, Int.reduceNeg, decide_true, decide_false, Bool.not_true, Bool.not_false, hd]; with_reducible rfl))) | ((with_reducible apply e_ix); (case hx => exact xDK); (case hi => exact xDK); (case ht => exact xTY); (case hz => exact rfl); (case he => (simp only [hd]; with_reducible rfl)); (case hc => exact xGS)) | ((with_reducible apply e_ln); (case hx => exact xDK); (case ht => exact xTY); (case hn => (first | (simp only [List.length_map, List.length_cons, List.length_nil, hd]; with_reducible rfl) | rfl))) | ((with_reducible apply e_nt); (case hx => exact xDK); (case h => (first | (simp only [Bool.not_true, Bool.not_false, hd]; with_reducible rfl) | rfl)))))) | (((with_reducible apply sg_nil); (case hn => exact rfl); (case hx => exact xDK); (case ht => exact xTY); intro β hβ)) | (((with_reducible apply sg_fnil); (case hn => exact rfl); (case hx => exact xDK); (case ht => exact Tryd.underlying40))) | (((with_reducible apply sg_bx); (case hn => exact rfl); (case hv => exact xLT); (case hc => exact xGS); (case hk => exact rfl))) | (((with_reducible apply sg_al); (case hn => exact rfl); (case hz => exact xTY); (case hc => exact xGS); (case hk => exact rfl))) | (((with_reducible apply sg_st); (case hx => exact xLK); (case hv => exact xLT); (case hc => exact xGS); (case hb => exact rfl); (case ht => exact xTY); (case hz => exact rfl); (case hs => exact xGS))) | (((with_reducible apply sg_e); (case hc => (intros; simp)); (case hs => (simp only [go_sem, Nat.reduceBEq, Nat.reduceBNe, Nat.reduceLT, Nat.reduceGT, Int.reduceGT, Int.reduceMul, Int.reduceAdd, Int.reduceSub, Nat.reduceAdd, Nat.reduceMul, Nat.reduceLeDiff, Nat.reduceEqDiff, Nat.reduceSub, Int.reduceNeg, Int.reduceToNat, Int.reduceLT, Int.reduceLE, Int.reduceEq, Int.cast_ofNat_Int, decide_true, decide_false, Bool.not_true, Bool.not_false, Bool.and_self, reduceIte, reduceCtorEq, hd]; with_reducible rfl)))))
      | ((with_reducible apply oy_n); (case hw => exact xWF); (case hd => exact rfl); (case hn => exact rfl))
      | ((with_reducible apply qy_ct); (case hc => exact xLK); (case he => exact xHB))
      | ((with_reducible apply qy_cf); (case hc => exact xLK); (case he => exact xHB))
      | ((with_reducible apply qy_cond); (case hc => exact xLK); (case hu => exact xUK); all_goals (intro hb))
      | ((with_reducible apply oy_if); (case hg => exact rfl); (case hd => exact rfl); (case he => exact rfl); (case hu => exact xUK); all_goals (intro hb))
      | fail
    exact ⟨.inl rfl, .inl (by rw [List.length_map, prtsL_len, hk2])⟩

set_option maxHeartbeats 4000000 in
theorem c_partsF (s : Int) : FC Tryd.prog 25 [.int .u64 s] (.v (.fn 31 [.ro [.int .u64 s]])) := by
  refine fc_of_body (nt := 4) (rs := [.tmp 2]) (ts := [(0, _)]) Tryd.func25 rfl rfl rfl rfl (by decide) (Nat.le_of_ble_eq_true rfl) ?_
  repeat' first
   | (apply tri_frz 1 (by decide); (case hb => (simp only [go_sem, Nat.reduceBEq, Nat.reduceBNe, Nat.reduceLT, Nat.reduceGT, Int.reduceGT, Int.reduceMul, Int.reduceAdd, Int.reduceSub, Nat.reduceAdd, Nat.reduceMul, Nat.reduceLeDiff, Nat.reduceEqDiff, Nat.reduceSub, Int.reduceNeg, Int.reduceToNat, Int.reduceLT, Int.reduceLE, Int.cast_ofNat_Int, decide_true, decide_false, Bool.and_self, reduceIte, reduceCtorEq]; with_reducible rfl)); (case hc => (simp only [go_sem, Nat.reduceBEq, Nat.reduceBNe, Nat.reduceLT, Nat.reduceGT, Int.reduceGT, Int.reduceMul, Int.reduceAdd, Int.reduceSub, Nat.reduceAdd, Nat.reduceMul, Nat.reduceLeDiff, Nat.reduceEqDiff, Nat.reduceSub, Int.reduceNeg, Int.reduceToNat, Int.reduceLT, Int.reduceLE, Int.cast_ofNat_Int, decide_true, decide_false, Bool.and_self, reduceIte, reduceCtorEq]; with_reducible rfl)); try simp only [go_sem, Nat.reduceBEq])
   | with_reducible first | refine thenQ_n ?_ | refine thenQ_r ?_ | refine thenQ_e ?_ | refine blockQ_n ?_ | refine blockQ_r ?_ | refine blockQ_e ?_ | refine tri_seq fun K hK => ?_ | refine tri_skip ?_ | refine tri_ret ?_ | refine tri_exit ?_ | refine tri_block ?_ | refine tri_region ?_ | refine sq_nil ?_
   | refine blockQ_o ?_ (by rfl)
   | ((with_reducible apply s_w); (case hw => exact xWT); first | ((with_reducible apply sg_q); (case hd => exact rfl); (case hn => exact rfl); (case he => (first | exact xE0 | ((with_reducible apply e_bi); (case hx => exact xDK); (case hy => exact xDK); (case hs => exact rfl); (case h => (simp only [binI, Int.reduceAdd, Int.reduceSub, Int.reduceMul, Int.reduceLT, Int.reduceLE, Int.reduceGT, Int.reduceEq, Int.reduceNeg, decide_true, decide_false, Bool.not_true, Bool.not_false]; with_reducible rfl))) | ((with_reducible apply e_ix); (case hx => exact xDK); (case hi => exact xDK); (case ht => exact xTY); (case hz => exact rfl); (case he => (simp only [go_sem]; with_reducible rfl)); (case hc => exact xGS)) | ((with_reducible apply e_ln); (case hx => exact xDK); (case ht => exact xTY); (case hn => (first | (simp only [List.length_map, List.length_cons, List.length_nil]; with_reducible rfl) | rfl))) | ((with_reducible apply e_nt); (case hx => exact xDK); (case h => (first | (simp only [Bool.not_true, Bool.not_false]; with_reducible rfl) | rfl)))))) | (((with_reducible apply sg_nil); (case hn => exact rfl); (case hx => exact xDK); (case ht => exact xTY); intro β hβ)) | (((with_reducible apply sg_fnil); (case hn => exact rfl); (case hx => exact xDK); (case ht => exact Tryd.underlying40))) | (((with_reducible apply sg_bx); (case hn => exact rfl); (case hv => exact xLT); (case hc => exact xGS); (case hk => exact rfl))) | (((with_reducible apply sg_al); (case hn => exact rfl); (case hz => exact xTY); (case hc => exact xGS); (case hk => exact rfl))) | (((with_reducible apply sg_st); (case hx => exact xLK); (case hv => exact xLT); (case hc => exact xGS); (case hb => exact rfl); (case ht => exact xTY); (case hz => exact rfl); (case hs => exact xGS))) | (((with_reducible apply sg_e); (case hc => (intros; simp)); (case hs => (simp only [go_sem, Nat.reduceBEq, Nat.reduceBNe, Nat.reduceLT, Nat.reduceGT, Int.reduceGT, Int.reduceMul, Int.reduceAdd, Int.reduceSub, Nat.reduceAdd, Nat.reduceMul, Nat.reduceLeDiff, Nat.reduceEqDiff, Nat.reduceSub, Int.reduceNeg, Int.reduceToNat, Int.reduceLT, Int.reduceLE, Int.reduceEq, Int.cast_ofNat_Int, decide_true, decide_false, Bool.not_true, Bool.not_false, Bool.and_self, reduceIte, reduceCtorEq]; with_reducible rfl)))))
   | ((with_reducible apply s_n); (case hw => exact xWF); (case hd => exact rfl); (case hn => exact rfl))
   | ((with_reducible apply qs_ct); (case hc => exact xLK); (case he => exact xHB))
   | ((with_reducible apply qs_cf); (case hc => exact xLK); (case he => exact xHB))
   | ((with_reducible apply qs_cond); (case hc => exact xLK); (case hu => exact xUK); all_goals (intro hb))
   | ((with_reducible apply s_if); (case hg => exact rfl); (case hd => exact rfl); (case he => exact rfl); (case hu => exact xUK); all_goals (intro hb))
   | ((first | apply post_r | apply post_a); (case h1 => first | exact r1_t rfl rfl | exact xR); (case he => simp))
   | (refine hK _ ?_; clear hK)
   | (clear hK; refine hK _ ?_; clear hK)
   | (clear hK; clear hK; refine hK _ ?_; clear hK)
   | (clear hK; clear hK; clear hK; refine hK _ ?_; clear hK)
   | (clear hK; clear hK; clear hK; clear hK; refine hK _ ?_; clear hK)
   | fail
  all_goals rfl

set_option maxHeartbeats 4000000 in
theorem c_parts (s m : Nat) (hs : s < 18446744073709551616) (hm : m ≤ 2000) : FC Tryd.prog 7 [.int .u64 (s : Int), .int .i64 (m : Int)] (.v (wordsE ((prtsL s).take m))) := by
  refine fc_of_body (nt := 25) (rs := [.tmp 4]) (ts := [(0, _), (1, _)]) Tryd.func7 rfl rfl rfl rfl (by decide) (Nat.le_of_ble_eq_true rfl) ?_
  have cw := c_partsF (s : Int)
  repeat' first
   | (apply tri_frz 3 (by decide); (case hb => (simp only [go_sem, Nat.reduceBEq, Nat.reduceBNe, Nat.reduceLT, Nat.reduceGT, Int.reduceGT, Int.reduceMul, Int.reduceAdd, Int.reduceSub, Nat.reduceAdd, Nat.reduceMul, Nat.reduceLeDiff, Nat.reduceEqDiff, Nat.reduceSub, Int.reduceNeg, Int.reduceToNat, Int.reduceLT, Int.reduceLE, Int.cast_ofNat_Int, decide_true, decide_false, Bool.and_self, reduceIte, reduceCtorEq]; with_reducible rfl)); (case hc => (simp only [go_sem, Nat.reduceBEq, Nat.reduceBNe, Nat.reduceLT, Nat.reduceGT, Int.reduceGT, Int.reduceMul, Int.reduceAdd, Int.reduceSub, Nat.reduceAdd, Nat.reduceMul, Nat.reduceLeDiff, Nat.reduceEqDiff, Nat.reduceSub, Int.reduceNeg, Int.reduceToNat, Int.reduceLT, Int.reduceLE, Int.cast_ofNat_Int, decide_true, decide_false, Bool.and_self, reduceIte, reduceCtorEq]; with_reducible rfl)); try simp only [go_sem, Nat.reduceBEq])
   | with_reducible first | refine thenQ_n ?_ | refine thenQ_r ?_ | refine thenQ_e ?_ | refine blockQ_n ?_ | refine blockQ_r ?_ | refine blockQ_e ?_ | refine tri_seq fun K hK => ?_ | refine tri_skip ?_ | refine tri_ret ?_ | refine tri_exit ?_ | refine tri_block ?_ | refine tri_region ?_ | refine sq_nil ?_
   | refine blockQ_o ?_ (by rfl)
   | ((with_reducible apply s_w); (case hw => exact xWT); first | ((with_reducible apply sg_q); (case hd => exact rfl); (case hn => exact rfl); (case he => (first | exact xE0 | ((with_reducible apply e_bi); (case hx => exact xDK); (case hy => exact xDK); (case hs => exact rfl); (case h => (simp only [binI, Int.reduceAdd, Int.reduceSub, Int.reduceMul, Int.reduceLT, Int.reduceLE, Int.reduceGT, Int.reduceEq, Int.reduceNeg, decide_true, decide_false, Bool.not_true, Bool.not_false]; with_reducible rfl))) | ((with_reducible apply e_ix); (case hx => exact xDK); (case hi => exact xDK); (case ht => exact xTY); (case hz => exact rfl); (case he => (simp only [go_sem]; with_reducible rfl)); (case hc => exact xGS)) | ((with_reducible apply e_ln); (case hx => exact xDK); (case ht => exact xTY); (case hn => (first | (simp only [List.length_map, List.length_cons, List.length_nil]; with_reducible rfl) | rfl))) | ((with_reducible apply e_nt); (case hx => exact xDK); (case h => (first | (simp only [Bool.not_true, Bool.not_false]; with_reducible rfl) | rfl)))))) | (((with_reducible apply sg_k); (case ha => exact xDA); (case hfc => (first | exact cw )); (case hr => exact xRT))) | ((with_reducible apply sg_kv); (case hv => exact rfl); (case ha => exact xDA); (case hl => exact xLs); (case hfc => (first | exact cw )); (case hr => exact xRT)) | (((with_reducible apply sg_kf); (case hv => exact rfl); (case hc => (first | exact rfl | (simp only [go_sem]; rfl))); (case ha => exact xDA); (case hl => exact xLs); (case hfc => (first | exact cw )); (case hr => exact xRT))) | (((with_reducible apply sg_nil); (case hn => exact rfl); (case hx => exact xDK); (case ht => exact xTY); intro β hβ)) | (((with_reducible apply sg_fnil); (case hn => exact rfl); (case hx => exact xDK); (case ht => exact Tryd.underlying40))) | (((with_reducible apply sg_bx); (case hn => exact rfl); (case hv => exact xLT); (case hc => exact xGS); (case hk => exact rfl))) | (((with_reducible apply sg_al); (case hn => exact rfl); (case hz => exact xTY); (case hc => exact xGS); (case hk => exact rfl))) | (((with_reducible apply sg_st); (case hx => exact xLK); (case hv => exact xLT); (case hc => exact xGS); (case hb => exact rfl); (case ht => exact xTY); (case hz => exact rfl); (case hs => exact xGS))) | (((with_reducible apply sg_e); (case hc => (intros; simp)); (case hs => (simp only [go_sem, Nat.reduceBEq, Nat.reduceBNe, Nat.reduceLT, Nat.reduceGT, Int.reduceGT, Int.reduceMul, Int.reduceAdd, Int.reduceSub, Nat.reduceAdd, Nat.reduceMul, Nat.reduceLeDiff, Nat.reduceEqDiff, Nat.reduceSub, Int.reduceNeg, Int.reduceToNat, Int.reduceLT, Int.reduceLE, Int.reduceEq, Int.cast_ofNat_Int, decide_true, decide_false, Bool.not_true, Bool.not_false, Bool.and_self, reduceIte, reduceCtorEq]; with_reducible rfl)))))
   | ((with_reducible apply s_n); (case hw => exact xWF); (case hd => exact rfl); (case hn => exact rfl))
   | ((with_reducible apply qs_ct); (case hc => exact xLK); (case he => exact xHB))
   | ((with_reducible apply qs_cf); (case hc => exact xLK); (case he => exact xHB))
   | ((with_reducible apply qs_cond); (case hc => exact xLK); (case hu => exact xUK); all_goals (intro hb))
   | ((with_reducible apply s_if); (case hg => exact rfl); (case hd => exact rfl); (case he => exact rfl); (case hu => exact xUK); all_goals (intro hb))
   | ((first | apply post_r | apply post_a); (case h1 => first | exact r1_t rfl rfl | exact xR); (case he => simp))
   | (refine hK _ ?_; clear hK)
   | (clear hK; refine hK _ ?_; clear hK)
   | (clear hK; clear hK; refine hK _ ?_; clear hK)
   | (clear hK; clear hK; clear hK; refine hK _ ?_; clear hK)
   | (clear hK; clear hK; clear hK; clear hK; refine hK _ ?_; clear hK)
   | fail
  refine tri_range (f := 31) (caps := [.ro [.int .u64 (s : Int)]]) (xs := (prtsL s).map fun (i : Nat) => [AV.int .u64 (i : Int)]) rfl (c_parts1 s hs) (by simp) (by simp) [(5, .loc 1000005 0), (3, .v (.ro [.int .i64 (m : Int)]))] rfl (fun q : Nat × Nat => ([(1000005, [.ap 1 (((prtsL s).take q.1).map fun (i : Nat) => AV.int .u64 (i : Int)) q.2])], [q.2])) (fun k q => q.1 = k ∧ k ≤ m ∧ (q.2 = 8 ∨ q.2 = 23)) (0, 8) ⟨rfl, by omega, .inl rfl⟩ ?_ ?_ ?_
  · exact le_of rfl (by simp [LeT, get, AS.up, upT, TV.up]) (by simp [LeT, get, AS.up, upB, upL, TV.up]) (by simp [LeK, memK, AS.up])
  · rintro l k hk ⟨q, w⟩ ⟨rfl, hqm, hw⟩
    simp only at hqm hw hk ⊢
    have hlt : q < (prtsL s).length := by simpa using hk
    have hx : ((prtsL s).map fun (i : Nat) => [AV.int .u64 (i : Int)])[q] = [.int .u64 ((prtsL s)[q] : Int)] := by simp
    rw [hx]
    have htk : List.map (fun i : Nat => AV.int .u64 (i : Int)) ((prtsL s).take (q + 1)) = List.map (fun i : Nat => AV.int .u64 (i : Int)) ((prtsL s).take q) ++ [.int .u64 ((prtsL s)[q] : Int)] := by
      rw [List.take_succ_eq_append_getElem hlt, List.map_append]; rfl
    have tl : ((prtsL s).take q).length = q := by rw [List.length_take]; omega
    have b1 : (q + 1) * 8 ≤ 140737488355328 := by omega
    have b2 : q + 1 ≤ 9223372036854775807 := by omega
    generalize (prtsL s)[q] = x at *
    show Tri Tryd.prog (some l) 0 _ ⟨25, [(15, .v (.int .u64 (x : Int))), (5, .loc 1000005 0), (3, .v (.ro [.int .i64 (m : Int)]))], [(1000005, [.ap 1 (((prtsL s).take q).map fun (i : Nat) => AV.int .u64 (i : Int)) w])], [w]⟩ _
    rcases hw with rfl | rfl
    · by_cases hqe : q = m
      · subst hqe
        have dn : decide ((q : Int) = (q : Int)) = true := by simp
        repeat' first
         | with_reducible first | refine thenQ_n ?_ | refine thenQ_r ?_ | refine thenQ_e ?_ | refine blockQ_n ?_ | refine blockQ_r ?_ | refine blockQ_e ?_ | refine tri_seq fun K hK => ?_ | refine tri_skip ?_ | refine tri_ret ?_ | refine tri_exit ?_ | refine tri_block ?_ | refine tri_region ?_ | refine sq_nil ?_
         | refine blockQ_o ?_ (by rfl)
         | ((with_reducible apply s_w); (case hw => exact xWT); first | ((with_reducible apply sg_q); (case hd => exact rfl); (case hn => exact rfl); (case he => (first | exact xE0 | ((with_reducible apply e_bi); (case hx => exact xDK); (case hy => exact xDK); (case hs => exact rfl); (case h => (simp only [binI, Int.reduceAdd, Int.reduceSub, Int.reduceMul, Int.reduceLT, Int.reduceLE, Int.reduceGT, Int.reduceEq, Int.reduceNeg, decide_true, decide_false, Bool.not_true, Bool.not_false, List.length_map, tl, dn]; with_reducible rfl))) | ((with_reducible apply e_ix); (case hx => exact xDK); (case hi => exact xDK); (case ht => exact xTY); (case hz => exact rfl); (case he => (simp only [List.length_map, tl, dn]; with_reducible rfl)); (case hc => exact xGS)) | ((with_reducible apply e_ln); (case hx => exact xDK); (case ht => exact xTY); (case hn => (first | (simp only [List.length_map, List.length_cons, List.length_nil, List.length_map, tl, dn]; with_reducible rfl) | rfl))) | ((with_reducible apply e_nt); (case hx => exact xDK); (case h => (first | (simp only [Bool.not_true, Bool.not_false, List.length_map, tl, dn]; with_reducible rfl) | rfl)))))) | (((with_reducible apply sg_nil); (case hn => exact rfl); (case hx => exact xDK); (case ht => exact xTY); intro β hβ)) | (((with_reducible apply sg_fnil); (case hn => exact rfl); (case hx => exact xDK); (case ht => exact Tryd.underlying40))) | (((with_reducible apply sg_bx); (case hn => exact rfl); (case hv => exact xLT); (case hc => exact xGS); (case hk => exact rfl))) | (((with_reducible apply sg_al); (case hn => exact rfl); (case hz => exact xTY); (case hc => exact xGS); (case hk => exact rfl))) | (((with_reducible apply sg_st); (case hx => exact xLK); (case hv => exact xLT); (case hc => exact xGS); (case hb => exact rfl); (case ht => exact xTY); (case hz => exact rfl); (case hs => exact xGS))) | (((with_reducible apply sg_e); (case hc => (intros; simp)); (case hs => (simp only [go_sem, Nat.reduceBEq, Nat.reduceBNe, Nat.reduceLT, Nat.reduceGT, Int.reduceGT, Int.reduceMul, Int.reduceAdd, Int.reduceSub, Nat.reduceAdd, Nat.reduceMul, Nat.reduceLeDiff, Nat.reduceEqDiff, Nat.reduceSub, Int.reduceNeg, Int.reduceToNat, Int.reduceLT, Int.reduceLE, Int.reduceEq, Int.cast_ofNat_Int, decide_true, decide_false, Bool.not_true, Bool.not_false, Bool.and_self, reduceIte, reduceCtorEq, List.length_map, tl, dn]; with_reducible rfl)))))
         | ((with_reducible apply s_n); (case hw => exact xWF); (case hd => exact rfl); (case hn => exact rfl))
         | ((with_reducible apply qs_ct); (case hc => exact xLK); (case he => exact xHB))
         | ((with_reducible apply qs_cf); (case hc => exact xLK); (case he => exact xHB))
         | ((with_reducible apply qs_cond); (case hc => exact xLK); (case hu => exact xUK); all_goals (intro hb))
         | ((with_reducible apply s_if); (case hg => exact rfl); (case hd => exact rfl); (case he => exact rfl); (case hu => exact xUK); all_goals (intro hb))
         | refine ⟨rfl, ?_⟩
         | (refine roundQ_e (σ1 := ⟨25, [(5, .loc 5 0), (3, .v (.ro [.int .i64 (q : Int)]))], [(5, [.ap 1 (((prtsL s).take q).map fun (i : Nat) => AV.int .u64 (i : Int)) 8])], [8]⟩) rfl ?_)
         | ((first | apply post_r | apply post_a); (case h1 => first | exact r1_t rfl rfl | exact xR); (case he => simp))
         | (refine hK _ ?_; clear hK)
         | (clear hK; refine hK _ ?_; clear hK)
         | (clear hK; clear hK; refine hK _ ?_; clear hK)
         | (clear hK; clear hK; clear hK; refine hK _ ?_; clear hK)
         | (clear hK; clear hK; clear hK; clear hK; refine hK _ ?_; clear hK)
         | fail
        all_goals (repeat (clear hK))
        all_goals rfl
      · have dn : decide ((q : Int) = (m : Int)) = false := by simp; omega
        repeat' first
         | with_reducible first | refine thenQ_n ?_ | refine thenQ_r ?_ | refine thenQ_e ?_ | refine blockQ_n ?_ | refine blockQ_r ?_ | refine blockQ_e ?_ | refine tri_seq fun K hK => ?_ | refine tri_skip ?_ | refine tri_ret ?_ | refine tri_exit ?_ | refine tri_block ?_ | refine tri_region ?_ | refine sq_nil ?_
         | refine blockQ_o ?_ (by rfl)
         | ((with_reducible apply s_w); (case hw => exact xWT); first | ((with_reducible apply sg_q); (case hd => exact rfl); (case hn => exact rfl); (case he => (first | exact xE0 | ((with_reducible apply e_bi); (case hx => exact xDK); (case hy => exact xDK); (case hs => exact rfl); (case h => (simp only [binI, Int.reduceAdd, Int.reduceSub, Int.reduceMul, Int.reduceLT, Int.reduceLE, Int.reduceGT, Int.reduceEq, Int.reduceNeg, decide_true, decide_false, Bool.not_true, Bool.not_false, List.length_map, List.length_cons, List.length_nil, Nat.zero_add, tl, dn, b1, b2]; with_reducible rfl))) | ((with_reducible apply e_ix); (case hx => exact xDK); (case hi => exact xDK); (case ht => exact xTY); (case hz => exact rfl); (case he => (simp only [List.length_map, List.length_cons, List.length_nil, Nat.zero_add, tl, dn, b1, b2]; with_reducible rfl)); (case hc => exact xGS)) | ((with_reducible apply e_ln); (case hx => exact xDK); (case ht => exact xTY); (case hn => (first | (simp only [List.length_map, List.length_cons, List.length_nil, List.length_map, List.length_cons, List.length_nil, Nat.zero_add, tl, dn, b1, b2]; with_reducible rfl) | rfl))) | ((with_reducible apply e_nt); (case hx => exact xDK); (case h => (first | (simp only [Bool.not_true, Bool.not_false, List.length_map, List.length_cons, List.length_nil, Nat.zero_add, tl, dn, b1, b2]; with_reducible rfl) | rfl)))))) | (((with_reducible apply sg_nil); (case hn => exact rfl); (case hx => exact xDK); (case ht => exact xTY); intro β hβ)) | (((with_reducible apply sg_fnil); (case hn => exact rfl); (case hx => exact xDK); (case ht => exact Tryd.underlying40))) | (((with_reducible apply sg_bx); (case hn => exact rfl); (case hv => exact xLT); (case hc => exact xGS); (case hk => exact rfl))) | (((with_reducible apply sg_al); (case hn => exact rfl); (case hz => exact xTY); (case hc => exact xGS); (case hk => exact rfl))) | (((with_reducible apply sg_st); (case hx => exact xLK); (case hv => exact xLT); (case hc => exact xGS); (case hb => exact rfl); (case ht => exact xTY); (case hz => exact rfl); (case hs => exact xGS))) | (((with_reducible apply sg_e); (case hc => (intros; simp)); (case hs => (simp only [go_sem, Nat.reduceBEq, Nat.reduceBNe, Nat.reduceLT, Nat.reduceGT, Int.reduceGT, Int.reduceMul, Int.reduceAdd, Int.reduceSub, Nat.reduceAdd, Nat.reduceMul, Nat.reduceLeDiff, Nat.reduceEqDiff, Nat.reduceSub, Int.reduceNeg, Int.reduceToNat, Int.reduceLT, Int.reduceLE, Int.reduceEq, Int.cast_ofNat_Int, decide_true, decide_false, Bool.not_true, Bool.not_false, Bool.and_self, reduceIte, reduceCtorEq, List.length_map, List.length_cons, List.length_nil, Nat.zero_add, tl, dn, b1, b2]; with_reducible rfl)))))
         | ((with_reducible apply s_n); (case hw => exact xWF); (case hd => exact rfl); (case hn => exact rfl))
         | ((with_reducible apply qs_ct); (case hc => exact xLK); (case he => exact xHB))
         | ((with_reducible apply qs_cf); (case hc => exact xLK); (case he => exact xHB))
         | ((with_reducible apply qs_cond); (case hc => exact xLK); (case hu => exact xUK); all_goals (intro hb))
         | ((with_reducible apply s_if); (case hg => exact rfl); (case hd => exact rfl); (case he => exact rfl); (case hu => exact xUK); all_goals (intro hb))
         | refine ⟨rfl, ?_⟩
         | ((first | apply post_r | apply post_a); (case h1 => first | exact r1_t rfl rfl | exact xR); (case he => simp))
         | (refine hK _ ?_; clear hK)
         | (clear hK; refine hK _ ?_; clear hK)
         | (clear hK; clear hK; refine hK _ ?_; clear hK)
         | (clear hK; clear hK; clear hK; refine hK _ ?_; clear hK)
         | (clear hK; clear hK; clear hK; clear hK; refine hK _ ?_; clear hK)
         | fail
        all_goals (repeat (clear hK))
        all_goals exact ⟨(q + 1, 23), ⟨rfl, by omega, .inr rfl⟩, by simp only [LeT, get, htk, go_sem, Nat.reduceBEq], by simp [LeK, memK]⟩
    · by_cases hqe : q = m
      · subst hqe
        have dn : decide ((q : Int) = (q : Int)) = true := by simp
        repeat' first
         | with_reducible first | refine thenQ_n ?_ | refine thenQ_r ?_ | refine thenQ_e ?_ | refine blockQ_n ?_ | refine blockQ_r ?_ | refine blockQ_e ?_ | refine tri_seq fun K hK => ?_ | refine tri_skip ?_ | refine tri_ret ?_ | refine tri_exit ?_ | refine tri_block ?_ | refine tri_region ?_ | refine sq_nil ?_
         | refine blockQ_o ?_ (by rfl)
         | ((with_reducible apply s_w); (case hw => exact xWT); first | ((with_reducible apply sg_q); (case hd => exact rfl); (case hn => exact rfl); (case he => (first | exact xE0 | ((with_reducible apply e_bi); (case hx => exact xDK); (case hy => exact xDK); (case hs => exact rfl); (case h => (simp only [binI, Int.reduceAdd, Int.reduceSub, Int.reduceMul, Int.reduceLT, Int.reduceLE, Int.reduceGT, Int.reduceEq, Int.reduceNeg, decide_true, decide_false, Bool.not_true, Bool.not_false, List.length_map, tl, dn]; with_reducible rfl))) | ((with_reducible apply e_ix); (case hx => exact xDK); (case hi => exact xDK); (case ht => exact xTY); (case hz => exact rfl); (case he => (simp only [List.length_map, tl, dn]; with_reducible rfl)); (case hc => exact xGS)) | ((with_reducible apply e_ln); (case hx => exact xDK); (case ht => exact xTY); (case hn => (first | (simp only [List.length_map, List.length_cons, List.length_nil, List.length_map, tl, dn]; with_reducible rfl) | rfl))) | ((with_reducible apply e_nt); (case hx => exact xDK); (case h => (first | (simp only [Bool.not_true, Bool.not_false, List.length_map, tl, dn]; with_reducible rfl) | rfl)))))) | (((with_reducible apply sg_nil); (case hn => exact rfl); (case hx => exact xDK); (case ht => exact xTY); intro β hβ)) | (((with_reducible apply sg_fnil); (case hn => exact rfl); (case hx => exact xDK); (case ht => exact Tryd.underlying40))) | (((with_reducible apply sg_bx); (case hn => exact rfl); (case hv => exact xLT); (case hc => exact xGS); (case hk => exact rfl))) | (((with_reducible apply sg_al); (case hn => exact rfl); (case hz => exact xTY); (case hc => exact xGS); (case hk => exact rfl))) | (((with_reducible apply sg_st); (case hx => exact xLK); (case hv => exact xLT); (case hc => exact xGS); (case hb => exact rfl); (case ht => exact xTY); (case hz => exact rfl); (case hs => exact xGS))) | (((with_reducible apply sg_e); (case hc => (intros; simp)); (case hs => (simp only [go_sem, Nat.reduceBEq, Nat.reduceBNe, Nat.reduceLT, Nat.reduceGT, Int.reduceGT, Int.reduceMul, Int.reduceAdd, Int.reduceSub, Nat.reduceAdd, Nat.reduceMul, Nat.reduceLeDiff, Nat.reduceEqDiff, Nat.reduceSub, Int.reduceNeg, Int.reduceToNat, Int.reduceLT, Int.reduceLE, Int.reduceEq, Int.cast_ofNat_Int, decide_true, decide_false, Bool.not_true, Bool.not_false, Bool.and_self, reduceIte, reduceCtorEq, List.length_map, tl, dn]; with_reducible rfl)))))
         | ((with_reducible apply s_n); (case hw => exact xWF); (case hd => exact rfl); (case hn => exact rfl))
         | ((with_reducible apply qs_ct); (case hc => exact xLK); (case he => exact xHB))
         | ((with_reducible apply qs_cf); (case hc => exact xLK); (case he => exact xHB))
         | ((with_reducible apply qs_cond); (case hc => exact xLK); (case hu => exact xUK); all_goals (intro hb))
         | ((with_reducible apply s_if); (case hg => exact rfl); (case hd => exact rfl); (case he => exact rfl); (case hu => exact xUK); all_goals (intro hb))
         | refine ⟨rfl, ?_⟩
         | (refine roundQ_e (σ1 := ⟨25, [(5, .loc 5 0), (3, .v (.ro [.int .i64 (q : Int)]))], [(5, [.ap 1 (((prtsL s).take q).map fun (i : Nat) => AV.int .u64 (i : Int)) 23])], [23]⟩) rfl ?_)
         | ((first | apply post_r | apply post_a); (case h1 => first | exact r1_t rfl rfl | exact xR); (case he => simp))
         | (refine hK _ ?_; clear hK)
         | (clear hK; refine hK _ ?_; clear hK)
         | (clear hK; clear hK; refine hK _ ?_; clear hK)
         | (clear hK; clear hK; clear hK; refine hK _ ?_; clear hK)
         | (clear hK; clear hK; clear hK; clear hK; refine hK _ ?_; clear hK)
         | fail
        all_goals (repeat (clear hK))
        all_goals rfl
      · have dn : decide ((q : Int) = (m : Int)) = false := by simp; omega
        repeat' first
         | with_reducible first | refine thenQ_n ?_ | refine thenQ_r ?_ | refine thenQ_e ?_ | refine blockQ_n ?_ | refine blockQ_r ?_ | refine blockQ_e ?_ | refine tri_seq fun K hK => ?_ | refine tri_skip ?_ | refine tri_ret ?_ | refine tri_exit ?_ | refine tri_block ?_ | refine tri_region ?_ | refine sq_nil ?_
         | refine blockQ_o ?_ (by rfl)
         | ((with_reducible apply s_w); (case hw => exact xWT); first | ((with_reducible apply sg_q); (case hd => exact rfl); (case hn => exact rfl); (case he => (first | exact xE0 | ((with_reducible apply e_bi); (case hx => exact xDK); (case hy => exact xDK); (case hs => exact rfl); (case h => (simp only [binI, Int.reduceAdd, Int.reduceSub, Int.reduceMul, Int.reduceLT, Int.reduceLE, Int.reduceGT, Int.reduceEq, Int.reduceNeg, decide_true, decide_false, Bool.not_true, Bool.not_false, List.length_map, List.length_cons, List.length_nil, Nat.zero_add, tl, dn, b1, b2]; with_reducible rfl))) | ((with_reducible apply e_ix); (case hx => exact xDK); (case hi => exact xDK); (case ht => exact xTY); (case hz => exact rfl); (case he => (simp only [List.length_map, List.length_cons, List.length_nil, Nat.zero_add, tl, dn, b1, b2]; with_reducible rfl)); (case hc => exact xGS)) | ((with_reducible apply e_ln); (case hx => exact xDK); (case ht => exact xTY); (case hn => (first | (simp only [List.length_map, List.length_cons, List.length_nil, List.length_map, List.length_cons, List.length_nil, Nat.zero_add, tl, dn, b1, b2]; with_reducible rfl) | rfl))) | ((with_reducible apply e_nt); (case hx => exact xDK); (case h => (first | (simp only [Bool.not_true, Bool.not_false, List.length_map, List.length_cons, List.length_nil, Nat.zero_add, tl, dn, b1, b2]; with_reducible rfl) | rfl)))))) | (((with_reducible apply sg_nil); (case hn => exact rfl); (case hx => exact xDK); (case ht => exact xTY); intro β hβ)) | (((with_reducible apply sg_fnil); (case hn => exact rfl); (case hx => exact xDK); (case ht => exact Tryd.underlying40))) | (((with_reducible apply sg_bx); (case hn => exact rfl); (case hv => exact xLT); (case hc => exact xGS); (case hk => exact rfl))) | (((with_reducible apply sg_al); (case hn => exact rfl); (case hz => exact xTY); (case hc => exact xGS); (case hk => exact rfl))) | (((with_reducible apply sg_st); (case hx => exact xLK); (case hv => exact xLT); (case hc => exact xGS); (case hb => exact rfl); (case ht => exact xTY); (case hz => exact rfl); (case hs => exact xGS))) | (((with_reducible apply sg_e); (case hc => (intros; simp)); (case hs => (simp only [go_sem, Nat.reduceBEq, Nat.reduceBNe, Nat.reduceLT, Nat.reduceGT, Int.reduceGT, Int.reduceMul, Int.reduceAdd, Int.reduceSub, Nat.reduceAdd, Nat.reduceMul, Nat.reduceLeDiff, Nat.reduceEqDiff, Nat.reduceSub, Int.reduceNeg, Int.reduceToNat, Int.reduceLT, Int.reduceLE, Int.reduceEq, Int.cast_ofNat_Int, decide_true, decide_false, Bool.not_true, Bool.not_false, Bool.and_self, reduceIte, reduceCtorEq, List.length_map, List.length_cons, List.length_nil, Nat.zero_add, tl, dn, b1, b2]; with_reducible rfl)))))
         | ((with_reducible apply s_n); (case hw => exact xWF); (case hd => exact rfl); (case hn => exact rfl))
         | ((with_reducible apply qs_ct); (case hc => exact xLK); (case he => exact xHB))
         | ((with_reducible apply qs_cf); (case hc => exact xLK); (case he => exact xHB))
         | ((with_reducible apply qs_cond); (case hc => exact xLK); (case hu => exact xUK); all_goals (intro hb))
         | ((with_reducible apply s_if); (case hg => exact rfl); (case hd => exact rfl); (case he => exact rfl); (case hu => exact xUK); all_goals (intro hb))
         | refine ⟨rfl, ?_⟩
         | ((first | apply post_r | apply post_a); (case h1 => first | exact r1_t rfl rfl | exact xR); (case he => simp))
         | (refine hK _ ?_; clear hK)
         | (clear hK; refine hK _ ?_; clear hK)
         | (clear hK; clear hK; refine hK _ ?_; clear hK)
         | (clear hK; clear hK; clear hK; refine hK _ ?_; clear hK)
         | (clear hK; clear hK; clear hK; clear hK; refine hK _ ?_; clear hK)
         | fail
        all_goals (repeat (clear hK))
        all_goals exact ⟨(q + 1, 23), ⟨rfl, by omega, .inr rfl⟩, by simp only [LeT, get, htk, go_sem, Nat.reduceBEq], by simp [LeK, memK]⟩
  · rintro ⟨q, w⟩ ⟨hq, hqm, hw⟩
    simp only at hq hqm hw ⊢
    subst hq
    rw [List.length_map] at hqm ⊢
    rw [List.take_length]
    have hfin := List.take_of_length_le hqm
    rcases hw with rfl | rfl
    · show blockQ 0 _ .normal ⟨25, [(5, .loc 5 0), (3, .v (.ro [.int .i64 (m : Int)]))], [(5, [.ap 1 ((prtsL s).map fun (i : Nat) => AV.int .u64 (i : Int)) 8])], [8]⟩
      repeat' first
       | with_reducible first | refine thenQ_n ?_ | refine thenQ_r ?_ | refine thenQ_e ?_ | refine blockQ_n ?_ | refine blockQ_r ?_ | refine blockQ_e ?_ | refine tri_seq fun K hK => ?_ | refine tri_skip ?_ | refine tri_ret ?_ | refine tri_exit ?_ | refine tri_block ?_ | refine tri_region ?_ | refine sq_nil ?_
       | refine blockQ_o ?_ (by rfl)
       | ((with_reducible apply s_w); (case hw => exact xWT); first | ((with_reducible apply sg_q); (case hd => exact rfl); (case hn => exact rfl); (case he => (first | exact xE0 | ((with_reducible apply e_bi); (case hx => exact xDK); (case hy => exact xDK); (case hs => exact rfl); (case h => (simp only [binI, Int.reduceAdd, Int.reduceSub, Int.reduceMul, Int.reduceLT, Int.reduceLE, Int.reduceGT, Int.reduceEq, Int.reduceNeg, decide_true, decide_false, Bool.not_true, Bool.not_false]; with_reducible rfl))) | ((with_reducible apply e_ix); (case hx => exact xDK); (case hi => exact xDK); (case ht => exact xTY); (case hz => exact rfl); (case he => (simp only [go_sem]; with_reducible rfl)); (case hc => exact xGS)) | ((with_reducible apply e_ln); (case hx => exact xDK); (case ht => exact xTY); (case hn => (first | (simp only [List.length_map, List.length_cons, List.length_nil]; with_reducible rfl) | rfl))) | ((with_reducible apply e_nt); (case hx => exact xDK); (case h => (first | (simp only [Bool.not_true, Bool.not_false]; with_reducible rfl) | rfl)))))) | (((with_reducible apply sg_nil); (case hn => exact rfl); (case hx => exact xDK); (case ht => exact xTY); intro β hβ)) | (((with_reducible apply sg_fnil); (case hn => exact rfl); (case hx => exact xDK); (case ht => exact Tryd.underlying40))) | (((with_reducible apply sg_bx); (case hn => exact rfl); (case hv => exact xLT); (case hc => exact xGS); (case hk => exact rfl))) | (((with_reducible apply sg_al); (case hn => exact rfl); (case hz => exact xTY); (case hc => exact xGS); (case hk => exact rfl))) | (((with_reducible apply sg_st); (case hx => exact xLK); (case hv => exact xLT); (case hc => exact xGS); (case hb => exact rfl); (case ht => exact xTY); (case hz => exact rfl); (case hs => exact xGS))) | (((with_reducible apply sg_e); (case hc => (intros; simp)); (case hs => (simp only [go_sem, Nat.reduceBEq, Nat.reduceBNe, Nat.reduceLT, Nat.reduceGT, Int.reduceGT, Int.reduceMul, Int.reduceAdd, Int.reduceSub, Nat.reduceAdd, Nat.reduceMul, Nat.reduceLeDiff, Nat.reduceEqDiff, Nat.reduceSub, Int.reduceNeg, Int.reduceToNat, Int.reduceLT, Int.reduceLE, Int.reduceEq, Int.cast_ofNat_Int, decide_true, decide_false, Bool.not_true, Bool.not_false, Bool.and_self, reduceIte, reduceCtorEq]; with_reducible rfl)))))
       | ((with_reducible apply s_n); (case hw => exact xWF); (case hd => exact rfl); (case hn => exact rfl))
       | ((with_reducible apply qs_ct); (case hc => exact xLK); (case he => exact xHB))
       | ((with_reducible apply qs_cf); (case hc => exact xLK); (case he => exact xHB))
       | ((with_reducible apply qs_cond); (case hc => exact xLK); (case hu => exact xUK); all_goals (intro hb))
       | ((with_reducible apply s_if); (case hg => exact rfl); (case hd => exact rfl); (case he => exact rfl); (case hu => exact xUK); all_goals (intro hb))
       | ((first | apply post_r | apply post_a); (case h1 => first | exact r1_t rfl rfl | exact xR); (case he => simp))
       | (refine hK _ ?_; clear hK)
       | (clear hK; refine hK _ ?_; clear hK)
       | (clear hK; clear hK; refine hK _ ?_; clear hK)
       | (clear hK; clear hK; clear hK; refine hK _ ?_; clear hK)
       | (clear hK; clear hK; clear hK; clear hK; refine hK _ ?_; clear hK)
       | fail
      all_goals (repeat (clear hK))
      all_goals (rw [hfin])
    · show blockQ 0 _ .normal ⟨25, [(5, .loc 5 0), (3, .v (.ro [.int .i64 (m : Int)]))], [(5, [.ap 1 ((prtsL s).map fun (i : Nat) => AV.int .u64 (i : Int)) 23])], [23]⟩
      repeat' first
       | with_reducible first | refine thenQ_n ?_ | refine thenQ_r ?_ | refine thenQ_e ?_ | refine blockQ_n ?_ | refine blockQ_r ?_ | refine blockQ_e ?_ | refine tri_seq fun K hK => ?_ | refine tri_skip ?_ | refine tri_ret ?_ | refine tri_exit ?_ | refine tri_block ?_ | refine tri_region ?_ | refine sq_nil ?_
       | refine blockQ_o ?_ (by rfl)
       | ((with_reducible apply s_w); (case hw => exact xWT); first | ((with_reducible apply sg_q); (case hd => exact rfl); (case hn => exact rfl); (case he => (first | exact xE0 | ((with_reducible apply e_bi); (case hx => exact xDK); (case hy => exact xDK); (case hs => exact rfl); (case h => (simp only [binI, Int.reduceAdd, Int.reduceSub, Int.reduceMul, Int.reduceLT, Int.reduceLE, Int.reduceGT, Int.reduceEq, Int.reduceNeg, decide_true, decide_false, Bool.not_true, Bool.not_false]; with_reducible rfl))) | ((with_reducible apply e_ix); (case hx => exact xDK); (case hi => exact xDK); (case ht => exact xTY); (case hz => exact rfl); (case he => (simp only [go_sem]; with_reducible rfl)); (case hc => exact xGS)) | ((with_reducible apply e_ln); (case hx => exact xDK); (case ht => exact xTY); (case hn => (first | (simp only [List.length_map, List.length_cons, List.length_nil]; with_reducible rfl) | rfl))) | ((with_reducible apply e_nt); (case hx => exact xDK); (case h => (first | (simp only [Bool.not_true, Bool.not_false]; with_reducible rfl) | rfl)))))) | (((with_reducible apply sg_nil); (case hn => exact rfl); (case hx => exact xDK); (case ht => exact xTY); intro β hβ)) | (((with_reducible apply sg_fnil); (case hn => exact rfl); (case hx => exact xDK); (case ht => exact Tryd.underlying40))) | (((with_reducible apply sg_bx); (case hn => exact rfl); (case hv => exact xLT); (case hc => exact xGS); (case hk => exact rfl))) | (((with_reducible apply sg_al); (case hn => exact rfl); (case hz => exact xTY); (case hc => exact xGS); (case hk => exact rfl))) | (((with_reducible apply sg_st); (case hx => exact xLK); (case hv => exact xLT); (case hc => exact xGS); (case hb => exact rfl); (case ht => exact xTY); (case hz => exact rfl); (case hs => exact xGS))) | (((with_reducible apply sg_e); (case hc => (intros; simp)); (case hs => (simp only [go_sem, Nat.reduceBEq, Nat.reduceBNe, Nat.reduceLT, Nat.reduceGT, Int.reduceGT, Int.reduceMul, Int.reduceAdd, Int.reduceSub, Nat.reduceAdd, Nat.reduceMul, Nat.reduceLeDiff, Nat.reduceEqDiff, Nat.reduceSub, Int.reduceNeg, Int.reduceToNat, Int.reduceLT, Int.reduceLE, Int.reduceEq, Int.cast_ofNat_Int, decide_true, decide_false, Bool.not_true, Bool.not_false, Bool.and_self, reduceIte, reduceCtorEq]; with_reducible rfl)))))
       | ((with_reducible apply s_n); (case hw => exact xWF); (case hd => exact rfl); (case hn => exact rfl))
       | ((with_reducible apply qs_ct); (case hc => exact xLK); (case he => exact xHB))
       | ((with_reducible apply qs_cf); (case hc => exact xLK); (case he => exact xHB))
       | ((with_reducible apply qs_cond); (case hc => exact xLK); (case hu => exact xUK); all_goals (intro hb))
       | ((with_reducible apply s_if); (case hg => exact rfl); (case hd => exact rfl); (case he => exact rfl); (case hu => exact xUK); all_goals (intro hb))
       | ((first | apply post_r | apply post_a); (case h1 => first | exact r1_t rfl rfl | exact xR); (case he => simp))
       | (refine hK _ ?_; clear hK)
       | (clear hK; refine hK _ ?_; clear hK)
       | (clear hK; clear hK; refine hK _ ?_; clear hK)
       | (clear hK; clear hK; clear hK; refine hK _ ?_; clear hK)
       | (clear hK; clear hK; clear hK; clear hK; refine hK _ ?_; clear hK)
       | fail
      all_goals (repeat (clear hK))
      all_goals (rw [hfin])

end Go.Proofs.YtceleegbbclajaaDoor.AL
