/- Contracts: the law of the members up to one. -/
import Derived.Test.YtceleegbbclajaaDoorYT8
namespace Go.Proofs.YtceleegbbclajaaDoor.AL
open Go
set_option linter.unusedVariables false
set_option linter.unusedSimpArgs false
set_option maxRecDepth 4000
def upN (i : Int) : Nat := (min i 63 + 1).toNat
theorem membs_bel (i : Int) : membs (belN i) = List.range (upN i) := by
  have hn : upN i ≤ 64 := by unfold upN; omega
  have h1 : membs (belN i) = (List.range 64).filter fun j => decide (j < upN i) := by
    unfold membs
    apply List.filter_congr
    intro j hj
    have hj := List.mem_range.1 hj
    rw [testBit_belN]
    unfold upN
    by_cases h : (j : Int) ≤ i
    · have h2 : j < (min i 63 + 1).toNat := by omega
      simp [h, hj, h2]
    · have h2 : ¬ j < (min i 63 + 1).toNat := by omega
      simp [h, h2]
  rw [h1]
  generalize upN i = n at *
  clear h1
  have : ∀ m n : Nat, n ≤ m → (List.range m).filter (fun j => decide (j < n)) = List.range n := by
    intro m
    induction m with
    | zero =>
      intro n h
      have h0 : n = 0 := by omega
      rw [h0]; rfl
    | succ m ih =>
      intro n h
      by_cases e : n = m + 1
      · subst e
        rw [List.filter_eq_self]
        intro a ha
        simpa using ha
      · rw [List.range_succ, List.filter_append, ih n (by omega)]
        have : ¬ m < n := by omega
        simp [this]
  exact this 64 n hn
/-- A set without its least member. -/
def restN (s i : Nat) : Nat := s &&& (18446744073709551615 - 2 ^ i)
theorem testBit_rest {s i : Nat} (hs : s < 18446744073709551616) (hi : i < 64) (j : Nat) : (restN s i).testBit j = (s.testBit j && !decide (j = i)) := by
  have hp : 2 ^ i < 2 ^ 64 := Nat.pow_lt_pow_right (by omega) hi
  unfold restN
  rw [Nat.testBit_and, show 18446744073709551615 - 2 ^ i = 2 ^ 64 - (2 ^ i + 1) by rw [pow64]; omega, Nat.testBit_two_pow_sub_succ hp, Nat.testBit_two_pow]
  by_cases hj : j < 64
  · by_cases e : j = i
    · subst e; simp [hj]
    · have e' : ¬ i = j := fun h => e h.symm
      simp [hj, e, e']
  · rw [← pow64] at hs
    rw [Nat.testBit_lt_two_pow (Nat.lt_of_lt_of_le hs (Nat.pow_le_pow_right (by omega) (by omega : 64 ≤ j)))]
    simp
structure RestP (s i : Nat) (l : List Nat) : Prop where
  lt64 : i < 64
  has : hasI s (i : Int) = true
  sub : inS (restN s i) s = true
  lt : restN s i < s
  cnt : (membs (restN s i)).length = l.length
  low : restN s i &&& belN (i : Int) = 0
theorem rest_prop {s i : Nat} {l : List Nat} (hs : s < 18446744073709551616) (hm : membs s = i :: l) : RestP s i l := by
  have hmem : i ∈ membs s := by rw [hm]; exact List.mem_cons_self
  have hi : i < 64 := membs_lt hmem
  have hb : s.testBit i = true := (List.mem_filter.1 hmem).2
  have hsort : (membs s).Pairwise (· < ·) := List.Pairwise.filter _ List.pairwise_lt_range
  rw [hm, List.pairwise_cons] at hsort
  have tb := testBit_rest hs hi
  refine ⟨hi, by rw [hasI_nat hi, hb], inS_iff.2 fun j hj h => ?_, ?_, ?_, ?_⟩
  · rw [tb] at h
    simp only [Bool.and_eq_true] at h
    exact h.1
  · have hle : restN s i ≤ s := Nat.and_le_left
    have hne : restN s i ≠ s := fun e => by
      have := tb i
      rw [e, hb] at this
      simp at this
    omega
  · have e : membs (restN s i) = (membs s).filter fun j => !decide (j = i) := by
      unfold membs
      rw [List.filter_filter]
      apply List.filter_congr
      intro j _
      rw [tb, Bool.and_comm]
    rw [e, hm, List.filter_cons]
    have h0 : (!decide (i = i)) = false := by simp
    rw [h0]
    have h1 : l.filter (fun j => !decide (j = i)) = l := by
      rw [List.filter_eq_self]
      intro a ha
      have := hsort.1 a ha
      simp; omega
    simp [h1]
  · apply Nat.eq_of_testBit_eq
    intro j
    rw [Nat.testBit_and, tb, testBit_belN, Nat.zero_testBit]
    by_cases hj : j < 64
    · by_cases h1 : j ≤ i
      · by_cases e : j = i
        · simp [e]
        · have h2 : s.testBit j = false := by
            cases hc : s.testBit j
            · rfl
            · have hj2 : j ∈ membs s := List.mem_filter.2 ⟨List.mem_range.2 hj, hc⟩
              rw [hm] at hj2
              rcases List.mem_cons.1 hj2 with h3 | h3
              · exact absurd h3 e
              · have := hsort.1 j h3; omega
          simp [h2]
      · have : ¬ (j : Int) ≤ (i : Int) := by omega
        simp [this]
    · simp [hj]

set_option maxHeartbeats 4000000 in
theorem c_setsBelow (s : Nat) (i : Int) (hs : s < 18446744073709551616) (hi : -9223372036854775808 ≤ i) : FC Tryd.prog 5 [.int .u64 s, .int .i64 i] (.v (.bool true)) := by
  refine fc_of_body (nt := 84) (rs := [.tmp 4]) (ts := [(0, _), (1, _)]) Tryd.func5 rfl rfl rfl rfl (by decide) (Nat.le_of_ble_eq_true rfl) ?_
  have aw := c_awakeS
  have k1 := c_below i
  have k2 := c_setList (belN i) (belN_lt i)
  rw [membs_bel] at k2
  have m1 : (if i < 63 then i else 63) = min i 63 := by split <;> omega
  have m1' : (if 63 < i then 63 else i) = min i 63 := by split <;> omega
  have wm : IntKind.i64.wrap (min i 63 + 1) = min i 63 + 1 := by rw [IntWalk.i64_in _ (by omega)]
  have mx : (if min i 63 + 1 > 0 then min i 63 + 1 else 0) = ((upN i : Nat) : Int) := by unfold upN; split <;> omega
  have dself : (!decide (((upN i : Nat) : Int) = ((upN i : Nat) : Int))) = false := by simp
  by_cases hu : upN i = 0
  · have dg : decide ((0 : Int) < ((upN i : Nat) : Int)) = false := by simp; omega
    have k3 := c_min s hs
    have k4 := c_count s hs
    cases hm : membs s with
    | nil =>
      have e0 := (membs_nil hs).1 hm
      have dz : decide ((s : Int) = 0) = true := by simp [e0]
      rw [hm] at k4
      rw [show minS s = -1 by simp [minS, hm]] at k3
      have dc : decide ((([] : List Nat).length : Int) = 0) = true := by simp
      repeat' first
       | with_reducible first | refine thenQ_n ?_ | refine thenQ_r ?_ | refine thenQ_e ?_ | refine blockQ_n ?_ | refine blockQ_r ?_ | refine blockQ_e ?_ | refine tri_seq fun K hK => ?_ | refine tri_skip ?_ | refine tri_ret ?_ | refine tri_exit ?_ | refine tri_block ?_ | refine tri_region ?_ | refine sq_nil ?_
       | refine blockQ_o ?_ (by rfl)
       | ((with_reducible apply s_w); (case hw => exact xWT); first | ((with_reducible apply sg_q); (case hd => exact rfl); (case hn => exact rfl); (case he => (first | exact xE0 | ((with_reducible apply e_bi); (case hx => exact xDK); (case hy => exact xDK); (case hs => exact rfl); (case h => (simp only [binI, Int.reduceAdd, Int.reduceSub, Int.reduceMul, Int.reduceLT, Int.reduceLE, Int.reduceGT, Int.reduceEq, Int.reduceNeg, decide_true, decide_false, Bool.not_true, Bool.not_false, List.length_map, List.length_range, m1, m1', wm, mx, dself, dz, dc, dg]; with_reducible rfl))) | ((with_reducible apply e_ix); (case hx => exact xDK); (case hi => exact xDK); (case ht => exact xTY); (case hz => exact rfl); (case he => (simp only [List.length_map, List.length_range, m1, m1', wm, mx, dself, dz, dc, dg]; with_reducible rfl)); (case hc => exact xGS)) | ((with_reducible apply e_ln); (case hx => exact xDK); (case ht => exact xTY); (case hn => (first | (simp only [List.length_map, List.length_cons, List.length_nil, List.length_map, List.length_range, m1, m1', wm, mx, dself, dz, dc, dg]; with_reducible rfl) | rfl))) | ((with_reducible apply e_nt); (case hx => exact xDK); (case h => (first | (simp only [Bool.not_true, Bool.not_false, List.length_map, List.length_range, m1, m1', wm, mx, dself, dz, dc, dg]; with_reducible rfl) | rfl)))))) | (((with_reducible apply sg_k); (case ha => exact xDA); (case hfc => ((try simp only [List.length_map, List.length_range, m1, m1', wm, mx, dself, dz, dc, dg]); first | exact aw | exact k1 | exact k2 | exact k3 | exact k4 )); (case hr => exact xRT))) | ((with_reducible apply sg_kv); (case hv => exact rfl); (case ha => exact xDA); (case hl => exact xLs); (case hfc => ((try simp only [List.length_map, List.length_range, m1, m1', wm, mx, dself, dz, dc, dg]); first | exact aw | exact k1 | exact k2 | exact k3 | exact k4 )); (case hr => exact xRT)) | (((with_reducible apply sg_bx); (case hn => exact rfl); (case hv => exact xLT); (case hc => exact xGS); (case hk => exact rfl))) | (((with_reducible apply sg_al); (case hn => exact rfl); (case hz => exact xTY); (case hc => exact xGS); (case hk => exact rfl))) | (((with_reducible apply sg_st); (case hx => exact xLK); (case hv => exact xLT); (case hc => exact xGS); (case hb => exact rfl); (case ht => exact xTY); (case hz => exact rfl); (case hs => exact xGS))) | (((with_reducible apply sg_e); (case hc => (intros; simp)); (case hs => (simp only [go_sem, Nat.reduceBEq, Nat.reduceBNe, Nat.reduceLT, Nat.reduceGT, Int.reduceGT, Int.reduceMul, Int.reduceAdd, Int.reduceSub, Nat.reduceAdd, Nat.reduceMul, Nat.reduceLeDiff, Nat.reduceEqDiff, Nat.reduceSub, Int.reduceNeg, Int.reduceToNat, Int.reduceLT, Int.reduceLE, Int.reduceEq, Int.cast_ofNat_Int, decide_true, decide_false, Bool.not_true, Bool.not_false, Bool.and_self, reduceIte, reduceCtorEq, List.length_map, List.length_range, m1, m1', wm, mx, dself, dz, dc, dg]; with_reducible rfl)))))
       | ((with_reducible apply s_n); (case hw => exact xWF); (case hd => exact rfl); (case hn => exact rfl))
       | ((with_reducible apply qs_ct); (case hc => exact xLK); (case he => exact xHB))
       | ((with_reducible apply qs_cf); (case hc => exact xLK); (case he => exact xHB))
       | ((with_reducible apply qs_cond); (case hc => exact xLK); (case hu => exact xUK); all_goals (intro hb))
       | ((with_reducible apply s_if); (case hg => exact rfl); (case hd => exact rfl); (case he => exact rfl); (case hu => exact xUK); all_goals (intro hb))
       | ((first | apply post_r | apply post_a); (case h1 => first | exact r1_t rfl rfl | exact xR); (case he => simp))
       | (refine hK _ ?_; clear hK)
       | (clear hK; refine hK _ ?_; clear hK)
       | (clear hK; clear hK; refine hK _ ?_; clear hK)
       | (clear hK; clear hK; clear hK; refine hK _ ?_; clear hK)
       | (clear hK; clear hK; clear hK; clear hK; refine hK _ ?_; clear hK)
       | fail
      all_goals first | done | rfl
    | cons i0 l =>
      have hz : s ≠ 0 := fun e => by rw [(membs_nil hs).2 e] at hm; cases hm
      have dz : decide ((s : Int) = 0) = false := by simp; omega
      have rp := rest_prop hs hm
      rw [hm, List.length_cons] at k4
      rw [show minS s = (i0 : Int) by simp [minS, hm]] at k3
      have k5 := c_setOf [(i0 : Int)]
      have hof : setF [(i0 : Int)] = ((2 ^ i0 : Nat) : Int) := by
        rw [setF_ofs, ofs_one]; unfold oneN; rw [if_pos (by have := rp.lt64; omega), Int.toNat_natCast]
      rw [hof] at k5
      simp only [intsE, List.map_cons, List.map_nil] at k5
      have hp : 2 ^ i0 < 18446744073709551616 := by rw [← pow64]; exact Nat.pow_lt_pow_right (by omega) rp.lt64
      have hr : bits .andNot .u64 (s : Int) ((2 ^ i0 : Nat) : Int) = ((restN s i0 : Nat) : Int) := u64_andNot_nat _ _ hs hp
      have hrl : restN s i0 < 18446744073709551616 := Nat.lt_trans rp.lt hs
      have k6 := c_hasI s (i0 : Int) hs
      rw [rp.has] at k6
      have k7 := c_in (restN s i0) s hrl hs
      rw [rp.sub] at k7
      have k8 := c_count (restN s i0) hrl
      rw [rp.cnt] at k8
      have k9 := c_below (i0 : Int)
      have hll : l.length ≤ 64 := by have := membs_len s; rw [hm, List.length_cons] at this; omega
      have hw : IntKind.i64.wrap (((l.length + 1 : Nat) : Int) - 1) = (l.length : Int) := by rw [IntWalk.i64_in _ (by omega)]; omega
      have dl : decide ((restN s i0 : Int) < (s : Int)) = true := by have := rp.lt; simp; omega
      have dq : decide ((l.length : Int) = (l.length : Int)) = true := by simp
      have da : decide (bits .and .u64 (restN s i0 : Int) (belN (i0 : Int) : Int) = 0) = true := by
        rw [u64_and_nat _ _ hrl (belN_lt _), rp.low]; rfl
      repeat' first
       | with_reducible first | refine thenQ_n ?_ | refine thenQ_r ?_ | refine thenQ_e ?_ | refine blockQ_n ?_ | refine blockQ_r ?_ | refine blockQ_e ?_ | refine tri_seq fun K hK => ?_ | refine tri_skip ?_ | refine tri_ret ?_ | refine tri_exit ?_ | refine tri_block ?_ | refine tri_region ?_ | refine sq_nil ?_
       | refine blockQ_o ?_ (by rfl)
       | ((with_reducible apply s_w); (case hw => exact xWT); first | ((with_reducible apply sg_q); (case hd => exact rfl); (case hn => exact rfl); (case he => (first | exact xE0 | ((with_reducible apply e_bi); (case hx => exact xDK); (case hy => exact xDK); (case hs => exact rfl); (case h => (simp only [binI, Int.reduceAdd, Int.reduceSub, Int.reduceMul, Int.reduceLT, Int.reduceLE, Int.reduceGT, Int.reduceEq, Int.reduceNeg, decide_true, decide_false, Bool.not_true, Bool.not_false, List.length_map, List.length_range, List.length_cons, List.length_nil, m1, m1', wm, mx, dself, dz, hr, hw, dl, dq, da, dg]; with_reducible rfl))) | ((with_reducible apply e_ix); (case hx => exact xDK); (case hi => exact xDK); (case ht => exact xTY); (case hz => exact rfl); (case he => (simp only [List.length_map, List.length_range, List.length_cons, List.length_nil, m1, m1', wm, mx, dself, dz, hr, hw, dl, dq, da, dg]; with_reducible rfl)); (case hc => exact xGS)) | ((with_reducible apply e_ln); (case hx => exact xDK); (case ht => exact xTY); (case hn => (first | (simp only [List.length_map, List.length_cons, List.length_nil, List.length_map, List.length_range, List.length_cons, List.length_nil, m1, m1', wm, mx, dself, dz, hr, hw, dl, dq, da, dg]; with_reducible rfl) | rfl))) | ((with_reducible apply e_nt); (case hx => exact xDK); (case h => (first | (simp only [Bool.not_true, Bool.not_false, List.length_map, List.length_range, List.length_cons, List.length_nil, m1, m1', wm, mx, dself, dz, hr, hw, dl, dq, da, dg]; with_reducible rfl) | rfl)))))) | (((with_reducible apply sg_k); (case ha => exact xDA); (case hfc => ((try simp only [List.length_map, List.length_range, List.length_cons, List.length_nil, m1, m1', wm, mx, dself, dz, hr, hw, dl, dq, da, dg]); first | exact aw | exact k1 | exact k2 | exact k3 | exact k4 | exact k5 | exact k6 | exact k7 | exact k8 | exact k9 )); (case hr => exact xRT))) | ((with_reducible apply sg_kv); (case hv => exact rfl); (case ha => exact xDA); (case hl => exact xLs); (case hfc => ((try simp only [List.length_map, List.length_range, List.length_cons, List.length_nil, m1, m1', wm, mx, dself, dz, hr, hw, dl, dq, da, dg]); first | exact aw | exact k1 | exact k2 | exact k3 | exact k4 | exact k5 | exact k6 | exact k7 | exact k8 | exact k9 )); (case hr => exact xRT)) | (((with_reducible apply sg_bx); (case hn => exact rfl); (case hv => exact xLT); (case hc => exact xGS); (case hk => exact rfl))) | (((with_reducible apply sg_al); (case hn => exact rfl); (case hz => exact xTY); (case hc => exact xGS); (case hk => exact rfl))) | (((with_reducible apply sg_st); (case hx => exact xLK); (case hv => exact xLT); (case hc => exact xGS); (case hb => exact rfl); (case ht => exact xTY); (case hz => exact rfl); (case hs => exact xGS))) | (((with_reducible apply sg_e); (case hc => (intros; simp)); (case hs => (simp only [go_sem, Nat.reduceBEq, Nat.reduceBNe, Nat.reduceLT, Nat.reduceGT, Int.reduceGT, Int.reduceMul, Int.reduceAdd, Int.reduceSub, Nat.reduceAdd, Nat.reduceMul, Nat.reduceLeDiff, Nat.reduceEqDiff, Nat.reduceSub, Int.reduceNeg, Int.reduceToNat, Int.reduceLT, Int.reduceLE, Int.reduceEq, Int.cast_ofNat_Int, decide_true, decide_false, Bool.not_true, Bool.not_false, Bool.and_self, reduceIte, reduceCtorEq, List.length_map, List.length_range, List.length_cons, List.length_nil, m1, m1', wm, mx, dself, dz, hr, hw, dl, dq, da, dg]; with_reducible rfl)))))
       | ((with_reducible apply s_n); (case hw => exact xWF); (case hd => exact rfl); (case hn => exact rfl))
       | ((with_reducible apply qs_ct); (case hc => exact xLK); (case he => exact xHB))
       | ((with_reducible apply qs_cf); (case hc => exact xLK); (case he => exact xHB))
       | ((with_reducible apply qs_cond); (case hc => exact xLK); (case hu => exact xUK); all_goals (intro hb))
       | ((with_reducible apply s_if); (case hg => exact rfl); (case hd => exact rfl); (case he => exact rfl); (case hu => exact xUK); all_goals (intro hb))
       | ((first | apply post_r | apply post_a); (case h1 => first | exact r1_t rfl rfl | exact xR); (case he => simp))
       | (refine hK _ ?_; clear hK)
       | (clear hK; refine hK _ ?_; clear hK)
       | (clear hK; clear hK; refine hK _ ?_; clear hK)
       | (clear hK; clear hK; clear hK; refine hK _ ?_; clear hK)
       | (clear hK; clear hK; clear hK; clear hK; refine hK _ ?_; clear hK)
       | fail
      all_goals first | done | rfl
  · have dg : decide ((0 : Int) < ((upN i : Nat) : Int)) = true := by simp; omega
    have hw1 : IntKind.i64.wrap (((upN i : Nat) : Int) - 1) = ((upN i - 1 : Nat) : Int) := by
      have : upN i ≤ 64 := by unfold upN; omega
      rw [IntWalk.i64_in _ (by omega)]; omega
    have hix : ixA ((List.range (upN i)).map fun (i : Nat) => AV.int .i64 (i : Int)) ((upN i - 1 : Nat) : Int) = some (.int .i64 (min i 63)) := by
      have h1 : upN i - 1 < (List.range (upN i)).length := by rw [List.length_range]; omega
      rw [ixA_map h1, List.getElem_range]
      have : ((upN i - 1 : Nat) : Int) = min i 63 := by unfold upN at *; omega
      rw [this]
    have dm : (!decide (min i 63 = min i 63)) = false := by simp
    have k3 := c_min s hs
    have k4 := c_count s hs
    cases hm : membs s with
    | nil =>
      have e0 := (membs_nil hs).1 hm
      have dz : decide ((s : Int) = 0) = true := by simp [e0]
      rw [hm] at k4
      rw [show minS s = -1 by simp [minS, hm]] at k3
      have dc : decide ((([] : List Nat).length : Int) = 0) = true := by simp
      repeat' first
       | with_reducible first | refine thenQ_n ?_ | refine thenQ_r ?_ | refine thenQ_e ?_ | refine blockQ_n ?_ | refine blockQ_r ?_ | refine blockQ_e ?_ | refine tri_seq fun K hK => ?_ | refine tri_skip ?_ | refine tri_ret ?_ | refine tri_exit ?_ | refine tri_block ?_ | refine tri_region ?_ | refine sq_nil ?_
       | refine blockQ_o ?_ (by rfl)
       | ((with_reducible apply s_w); (case hw => exact xWT); first | ((with_reducible apply sg_q); (case hd => exact rfl); (case hn => exact rfl); (case he => (first | exact xE0 | ((with_reducible apply e_bi); (case hx => exact xDK); (case hy => exact xDK); (case hs => exact rfl); (case h => (simp only [binI, Int.reduceAdd, Int.reduceSub, Int.reduceMul, Int.reduceLT, Int.reduceLE, Int.reduceGT, Int.reduceEq, Int.reduceNeg, decide_true, decide_false, Bool.not_true, Bool.not_false, List.length_map, List.length_range, m1, m1', wm, mx, dself, dz, dc, dg, hw1, hix, dm]; with_reducible rfl))) | ((with_reducible apply e_ix); (case hx => exact xDK); (case hi => exact xDK); (case ht => exact xTY); (case hz => exact rfl); (case he => (simp only [List.length_map, List.length_range, m1, m1', wm, mx, dself, dz, dc, dg, hw1, hix, dm]; with_reducible rfl)); (case hc => exact xGS)) | ((with_reducible apply e_ln); (case hx => exact xDK); (case ht => exact xTY); (case hn => (first | (simp only [List.length_map, List.length_cons, List.length_nil, List.length_map, List.length_range, m1, m1', wm, mx, dself, dz, dc, dg, hw1, hix, dm]; with_reducible rfl) | rfl))) | ((with_reducible apply e_nt); (case hx => exact xDK); (case h => (first | (simp only [Bool.not_true, Bool.not_false, List.length_map, List.length_range, m1, m1', wm, mx, dself, dz, dc, dg, hw1, hix, dm]; with_reducible rfl) | rfl)))))) | (((with_reducible apply sg_k); (case ha => exact xDA); (case hfc => ((try simp only [List.length_map, List.length_range, m1, m1', wm, mx, dself, dz, dc, dg, hw1, hix, dm]); first | exact aw | exact k1 | exact k2 | exact k3 | exact k4 )); (case hr => exact xRT))) | ((with_reducible apply sg_kv); (case hv => exact rfl); (case ha => exact xDA); (case hl => exact xLs); (case hfc => ((try simp only [List.length_map, List.length_range, m1, m1', wm, mx, dself, dz, dc, dg, hw1, hix, dm]); first | exact aw | exact k1 | exact k2 | exact k3 | exact k4 )); (case hr => exact xRT)) | (((with_reducible apply sg_bx); (case hn => exact rfl); (case hv => exact xLT); (case hc => exact xGS); (case hk => exact rfl))) | (((with_reducible apply sg_al); (case hn => exact rfl); (case hz => exact xTY); (case hc => exact xGS); (case hk => exact rfl))) | (((with_reducible apply sg_st); (case hx => exact xLK); (case hv => exact xLT); (case hc => exact xGS); (case hb => exact rfl); (case ht => exact xTY); (case hz => exact rfl); (case hs => exact xGS))) | (((with_reducible apply sg_e); (case hc => (intros; simp)); (case hs => (simp only [go_sem, Nat.reduceBEq, Nat.reduceBNe, Nat.reduceLT, Nat.reduceGT, Int.reduceGT, Int.reduceMul, Int.reduceAdd, Int.reduceSub, Nat.reduceAdd, Nat.reduceMul, Nat.reduceLeDiff, Nat.reduceEqDiff, Nat.reduceSub, Int.reduceNeg, Int.reduceToNat, Int.reduceLT, Int.reduceLE, Int.reduceEq, Int.cast_ofNat_Int, decide_true, decide_false, Bool.not_true, Bool.not_false, Bool.and_self, reduceIte, reduceCtorEq, List.length_map, List.length_range, m1, m1', wm, mx, dself, dz, dc, dg, hw1, hix, dm]; with_reducible rfl)))))
       | ((with_reducible apply s_n); (case hw => exact xWF); (case hd => exact rfl); (case hn => exact rfl))
       | ((with_reducible apply qs_ct); (case hc => exact xLK); (case he => exact xHB))
       | ((with_reducible apply qs_cf); (case hc => exact xLK); (case he => exact xHB))
       | ((with_reducible apply qs_cond); (case hc => exact xLK); (case hu => exact xUK); all_goals (intro hb))
       | ((with_reducible apply s_if); (case hg => exact rfl); (case hd => exact rfl); (case he => exact rfl); (case hu => exact xUK); all_goals (intro hb))
       | ((first | apply post_r | apply post_a); (case h1 => first | exact r1_t rfl rfl | exact xR); (case he => simp))
       | (refine hK _ ?_; clear hK)
       | (clear hK; refine hK _ ?_; clear hK)
       | (clear hK; clear hK; refine hK _ ?_; clear hK)
       | (clear hK; clear hK; clear hK; refine hK _ ?_; clear hK)
       | (clear hK; clear hK; clear hK; clear hK; refine hK _ ?_; clear hK)
       | fail
      all_goals first | done | rfl
    | cons i0 l =>
      have hz : s ≠ 0 := fun e => by rw [(membs_nil hs).2 e] at hm; cases hm
      have dz : decide ((s : Int) = 0) = false := by simp; omega
      have rp := rest_prop hs hm
      rw [hm, List.length_cons] at k4
      rw [show minS s = (i0 : Int) by simp [minS, hm]] at k3
      have k5 := c_setOf [(i0 : Int)]
      have hof : setF [(i0 : Int)] = ((2 ^ i0 : Nat) : Int) := by
        rw [setF_ofs, ofs_one]; unfold oneN; rw [if_pos (by have := rp.lt64; omega), Int.toNat_natCast]
      rw [hof] at k5
      simp only [intsE, List.map_cons, List.map_nil] at k5
      have hp : 2 ^ i0 < 18446744073709551616 := by rw [← pow64]; exact Nat.pow_lt_pow_right (by omega) rp.lt64
      have hr : bits .andNot .u64 (s : Int) ((2 ^ i0 : Nat) : Int) = ((restN s i0 : Nat) : Int) := u64_andNot_nat _ _ hs hp
      have hrl : restN s i0 < 18446744073709551616 := Nat.lt_trans rp.lt hs
      have k6 := c_hasI s (i0 : Int) hs
      rw [rp.has] at k6
      have k7 := c_in (restN s i0) s hrl hs
      rw [rp.sub] at k7
      have k8 := c_count (restN s i0) hrl
      rw [rp.cnt] at k8
      have k9 := c_below (i0 : Int)
      have hll : l.length ≤ 64 := by have := membs_len s; rw [hm, List.length_cons] at this; omega
      have hw : IntKind.i64.wrap (((l.length + 1 : Nat) : Int) - 1) = (l.length : Int) := by rw [IntWalk.i64_in _ (by omega)]; omega
      have dl : decide ((restN s i0 : Int) < (s : Int)) = true := by have := rp.lt; simp; omega
      have dq : decide ((l.length : Int) = (l.length : Int)) = true := by simp
      have da : decide (bits .and .u64 (restN s i0 : Int) (belN (i0 : Int) : Int) = 0) = true := by
        rw [u64_and_nat _ _ hrl (belN_lt _), rp.low]; rfl
      repeat' first
       | with_reducible first | refine thenQ_n ?_ | refine thenQ_r ?_ | refine thenQ_e ?_ | refine blockQ_n ?_ | refine blockQ_r ?_ | refine blockQ_e ?_ | refine tri_seq fun K hK => ?_ | refine tri_skip ?_ | refine tri_ret ?_ | refine tri_exit ?_ | refine tri_block ?_ | refine tri_region ?_ | refine sq_nil ?_
       | refine blockQ_o ?_ (by rfl)
       | ((with_reducible apply s_w); (case hw => exact xWT); first | ((with_reducible apply sg_q); (case hd => exact rfl); (case hn => exact rfl); (case he => (first | exact xE0 | ((with_reducible apply e_bi); (case hx => exact xDK); (case hy => exact xDK); (case hs => exact rfl); (case h => (simp only [binI, Int.reduceAdd, Int.reduceSub, Int.reduceMul, Int.reduceLT, Int.reduceLE, Int.reduceGT, Int.reduceEq, Int.reduceNeg, decide_true, decide_false, Bool.not_true, Bool.not_false, List.length_map, List.length_range, List.length_cons, List.length_nil, m1, m1', wm, mx, dself, dz, hr, hw, dl, dq, da, dg, hw1, hix, dm]; with_reducible rfl))) | ((with_reducible apply e_ix); (case hx => exact xDK); (case hi => exact xDK); (case ht => exact xTY); (case hz => exact rfl); (case he => (simp only [List.length_map, List.length_range, List.length_cons, List.length_nil, m1, m1', wm, mx, dself, dz, hr, hw, dl, dq, da, dg, hw1, hix, dm]; with_reducible rfl)); (case hc => exact xGS)) | ((with_reducible apply e_ln); (case hx => exact xDK); (case ht => exact xTY); (case hn => (first | (simp only [List.length_map, List.length_cons, List.length_nil, List.length_map, List.length_range, List.length_cons, List.length_nil, m1, m1', wm, mx, dself, dz, hr, hw, dl, dq, da, dg, hw1, hix, dm]; with_reducible rfl) | rfl))) | ((with_reducible apply e_nt); (case hx => exact xDK); (case h => (first | (simp only [Bool.not_true, Bool.not_false, List.length_map, List.length_range, List.length_cons, List.length_nil, m1, m1', wm, mx, dself, dz, hr, hw, dl, dq, da, dg, hw1, hix, dm]; with_reducible rfl) | rfl)))))) | (((with_reducible apply sg_k); (case ha => exact xDA); (case hfc => ((try simp only [List.length_map, List.length_range, List.length_cons, List.length_nil, m1, m1', wm, mx, dself, dz, hr, hw, dl, dq, da, dg, hw1, hix, dm]); first | exact aw | exact k1 | exact k2 | exact k3 | exact k4 | exact k5 | exact k6 | exact k7 | exact k8 | exact k9 )); (case hr => exact xRT))) | ((with_reducible apply sg_kv); (case hv => exact rfl); (case ha => exact xDA); (case hl => exact xLs); (case hfc => ((try simp only [List.length_map, List.length_range, List.length_cons, List.length_nil, m1, m1', wm, mx, dself, dz, hr, hw, dl, dq, da, dg, hw1, hix, dm]); first | exact aw | exact k1 | exact k2 | exact k3 | exact k4 | exact k5 | exact k6 | exact k7 | exact k8 | exact k9 )); (case hr => exact xRT)) | (((with_reducible apply sg_bx); (case hn => exact rfl); (case hv => exact xLT); (case hc => exact xGS); (case hk => exact rfl))) | (((with_reducible apply sg_al); (case hn => exact rfl); (case hz => exact xTY); (case hc => exact xGS); (case hk => exact rfl))) | (((with_reducible apply sg_st); (case hx => exact xLK); (case hv => exact xLT); (case hc => exact xGS); (case hb => exact rfl); (case ht => exact xTY); (case hz => exact rfl); (case hs => exact xGS))) | (((with_reducible apply sg_e); (case hc => (intros; simp)); (case hs => (simp only [go_sem, Nat.reduceBEq, Nat.reduceBNe, Nat.reduceLT, Nat.reduceGT, Int.reduceGT, Int.reduceMul, Int.reduceAdd, Int.reduceSub, Nat.reduceAdd, Nat.reduceMul, Nat.reduceLeDiff, Nat.reduceEqDiff, Nat.reduceSub, Int.reduceNeg, Int.reduceToNat, Int.reduceLT, Int.reduceLE, Int.reduceEq, Int.cast_ofNat_Int, decide_true, decide_false, Bool.not_true, Bool.not_false, Bool.and_self, reduceIte, reduceCtorEq, List.length_map, List.length_range, List.length_cons, List.length_nil, m1, m1', wm, mx, dself, dz, hr, hw, dl, dq, da, dg, hw1, hix, dm]; with_reducible rfl)))))
       | ((with_reducible apply s_n); (case hw => exact xWF); (case hd => exact rfl); (case hn => exact rfl))
       | ((with_reducible apply qs_ct); (case hc => exact xLK); (case he => exact xHB))
       | ((with_reducible apply qs_cf); (case hc => exact xLK); (case he => exact xHB))
       | ((with_reducible apply qs_cond); (case hc => exact xLK); (case hu => exact xUK); all_goals (intro hb))
       | ((with_reducible apply s_if); (case hg => exact rfl); (case hd => exact rfl); (case he => exact rfl); (case hu => exact xUK); all_goals (intro hb))
       | ((first | apply post_r | apply post_a); (case h1 => first | exact r1_t rfl rfl | exact xR); (case he => simp))
       | (refine hK _ ?_; clear hK)
       | (clear hK; refine hK _ ?_; clear hK)
       | (clear hK; clear hK; refine hK _ ?_; clear hK)
       | (clear hK; clear hK; clear hK; refine hK _ ?_; clear hK)
       | (clear hK; clear hK; clear hK; clear hK; refine hK _ ?_; clear hK)
       | fail
      all_goals first | done | rfl

end Go.Proofs.YtceleegbbclajaaDoor.AL
