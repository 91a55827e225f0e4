/- Contracts: a text's value. -/
import Derived.Test.YtenigafbbdjagaaDoorYV3
namespace Go.Proofs.YtenigafbbdjagaaDoor.AL
open Go Go.Proofs
set_option linter.unusedVariables false
set_option linter.unusedSimpArgs false
set_option maxRecDepth 4000
def numA (a : Nat) (l : List UInt8) : Nat := l.foldl (fun a b => a * 10 + (b.toNat - 48)) a
theorem numA_le : ∀ (l : List UInt8) (a : Nat), a ≤ numA a l
  | [], a => Nat.le_refl _
  | b :: l, a => by
    have := numA_le l (a * 10 + (b.toNat - 48))
    show a ≤ numA (a * 10 + (b.toNat - 48)) l
    omega
theorem uint_num : ∀ (l : List UInt8) (a : Nat), l.all digB = true → a ≤ 18446744073709551615 → Lib.parseUintM 18446744073709551615 a l = if numA a l ≤ 18446744073709551615 then .ok (numA a l) else .range
  | [], a, _, ha => by unfold Lib.parseUintM; show _ = if a ≤ _ then Lib.NumEnd.ok a else _; rw [if_pos ha]
  | b :: l, a, h, ha => by
    rw [List.all_cons, Bool.and_eq_true] at h
    have hb := h.1
    simp only [digB, Bool.and_eq_true, decide_eq_true_eq] at hb
    have hle := numA_le l (a * 10 + (b.toNat - 48))
    have e : numA a (b :: l) = numA (a * 10 + (b.toNat - 48)) l := rfl
    unfold Lib.parseUintM
    rw [if_pos hb, e]
    by_cases h1 : 1844674407370955162 ≤ a
    · rw [if_pos h1, if_neg (by omega)]
    · rw [if_neg h1]
      by_cases h2 : 18446744073709551615 < a * 10 + (b.toNat - 48)
      · rw [if_pos h2, if_neg (by omega)]
      · rw [if_neg h2, uint_num l _ h.2 (by omega)]
def parF (s : List UInt8) : Val × Int :=
  if s = nullS then (⟨true, 0⟩, 0) else if digsF s = false then (⟨false, 0⟩, 1)
  else if minusF s = true then (if numA 0 (bodyF s) ≤ 9223372036854775808 then (⟨false, -(numA 0 (bodyF s) : Int)⟩, 0) else (⟨false, 0⟩, 3))
  else if numA 0 (bodyF s) < 9223372036854775808 then (⟨false, (numA 0 (bodyF s) : Int)⟩, 0) else (⟨false, 0⟩, 3)
theorem body_ne {s : List UInt8} (h : digsF s = true) : bodyF s ≠ [] := by
  intro h0
  unfold digsF at h
  rw [Bool.and_eq_true] at h
  unfold bodyF at h0
  by_cases hm : minusF s = true
  · rw [if_pos hm] at h0
    simp only [minusF, Bool.and_eq_true, decide_eq_true_eq] at hm
    have : s.tail.length = 0 := by rw [h0]; rfl
    rw [List.length_tail] at this; omega
  · rw [if_neg hm] at h0
    subst h0
    simp [headF, trimF] at h
theorem pi_of {s : List UInt8} (h : digsF s = true) : Lib.parseIntB 64 s = if minusF s = true then (if numA 0 (bodyF s) ≤ 9223372036854775808 then .ok (-(numA 0 (bodyF s) : Int)) else .range) else if numA 0 (bodyF s) < 9223372036854775808 then .ok (numA 0 (bodyF s) : Int) else .range := by
  have hne := body_ne h
  have hall : (bodyF s).all digB = true := by unfold digsF at h; rw [Bool.and_eq_true] at h; exact h.1
  have hu := uint_num (bodyF s) 0 hall (by omega)
  have hB : Lib.parseUintB 64 (bodyF s) = if numA 0 (bodyF s) ≤ 18446744073709551615 then .ok (numA 0 (bodyF s)) else .range := by
    unfold Lib.parseUintB; rw [if_neg hne]; exact hu
  obtain ⟨u, hu0⟩ : ∃ u, u = numA 0 (bodyF s) := ⟨_, rfl⟩
  rw [← hu0] at hB ⊢
  clear hu hu0
  by_cases hm : minusF s = true
  · rw [if_pos hm]
    unfold bodyF at hB
    rw [if_pos hm] at hB
    simp only [minusF, Bool.and_eq_true, decide_eq_true_eq] at hm
    cases s with
    | nil => simp at hm
    | cons c r =>
      have hc : c = 45 := by simpa using hm.1
      subst hc
      rw [Lib.parseIntB_minus, show r = (45 :: r : List UInt8).tail from rfl, hB]
      by_cases h1 : u ≤ 18446744073709551615
      · rw [if_pos h1]
        show (if 9223372036854775808 < u then _ else _) = _
        by_cases h2 : u ≤ 9223372036854775808
        · rw [if_pos h2, if_neg (by omega)]
        · rw [if_neg h2, if_pos (by omega)]
      · rw [if_neg h1, if_neg (by omega)]; rfl
  · rw [if_neg hm]
    unfold bodyF at hB hall hne
    rw [if_neg hm] at hB hall hne
    cases s with
    | nil => exact absurd rfl hne
    | cons c r =>
      rw [List.all_cons, Bool.and_eq_true] at hall
      have hb := hall.1
      simp only [digB, Bool.and_eq_true, decide_eq_true_eq] at hb
      rw [Lib.parseIntB_plain 64 c r (by omega) (by omega), hB]
      by_cases h1 : u ≤ 18446744073709551615
      · rw [if_pos h1]
        show (if 9223372036854775808 ≤ u then _ else _) = _
        by_cases h2 : u < 9223372036854775808
        · rw [if_pos h2, if_neg (by omega)]
        · rw [if_neg h2, if_pos (by omega)]
      · rw [if_neg h1, if_neg (by omega)]; rfl

theorem post_2 {s : AS} {r1 r2 : ResultVar} {u1 u2 v1 v2 : AV} {ex : Exit} (e1 : u1 = v1) (e2 : u2 = v2) (h1 : outV s r1 = some u1) (h2 : outV s r2 = some u2) (he : ex = .ret ∨ ex = .normal) : Post Tryd.prog [r1, r2] (.tup [.v v1, .v v2]) ex s := by
  subst e1; subst e2
  unfold outV at h1 h2
  cases ha : res1 Tryd.prog s r1 with
  | none => simp [ha] at h1
  | some x1 =>
    cases hb : res1 Tryd.prog s r2 with
    | none => simp [hb] at h2
    | some x2 =>
      simp only [ha, Option.bind_some] at h1
      simp only [hb, Option.bind_some] at h2
      exact ⟨he.symm, [x1, x2], [u1, u2], by simp [resAll, ha, hb], by simp [TV.dat.datL, h1, h2], rfl⟩

theorem null_of (s : List UInt8) : decide (s = [226, 136, 133]) = decide (s = nullS) := rfl
def resP (r : Val × Int) : TV := .tup [.v (.agg [.bool r.1.null, .int .i64 r.1.n]), .v (.int .i64 r.2)]

set_option maxHeartbeats 4000000 in
theorem c_parse (s : List UInt8) (hs : s.length ≤ 70000) : FC Tryd.prog 9 [.str s] (resP (parF s)) := by
  refine fc_of_body (nt := 23) (rs := [.cell 2 23, .tmp 3]) (ts := [(0, _)]) Tryd.func9 rfl rfl rfl rfl (by decide) (Nat.le_of_ble_eq_true rfl) ?_
  unfold parF
  by_cases h0 : s = nullS
  · subst h0
    have hd1 : decide (([226, 136, 133] : List UInt8) = [226, 136, 133]) = true := rfl
    rw [if_pos rfl]
    unfold nullS
    repeat' first
     | with_reducible first | refine thenQ_n ?_ | refine thenQ_r ?_ | refine thenQ_e ?_ | refine blockQ_n ?_ | refine blockQ_r ?_ | refine blockQ_e ?_ | refine tri_seq fun K hK => ?_ | refine tri_skip ?_ | refine tri_ret ?_ | refine tri_exit ?_ | refine tri_block ?_ | refine tri_region ?_ | refine sq_nil ?_
     | refine blockQ_o ?_ (by rfl)
     | ((with_reducible apply s_w); (case hw => exact xWT); first | ((with_reducible apply sg_q); (case hd => exact rfl); (case hn => exact rfl); (case he => (first | exact xE0 | ((with_reducible apply e_bi); (case hx => exact xDK); (case hy => exact xDK); (case hs => exact rfl); (case h => (simp only [binI, Int.reduceAdd, Int.reduceSub, Int.reduceMul, Int.reduceLT, Int.reduceLE, Int.reduceGT, Int.reduceEq, Int.reduceNeg, decide_true, decide_false, Bool.not_true, Bool.not_false, hd1]; with_reducible rfl))) | ((with_reducible apply e_ix); (case hx => exact xDK); (case hi => exact xDK); (case ht => exact xTY); (case hz => exact rfl); (case he => (simp only [hd1]; with_reducible rfl)); (case hc => exact xGS)) | ((with_reducible apply e_ln); (case hx => exact xDK); (case ht => exact xTY); (case hn => (first | (simp only [List.length_map, List.length_cons, List.length_nil, hd1]; with_reducible rfl) | rfl))) | ((with_reducible apply e_nt); (case hx => exact xDK); (case h => (first | (simp only [Bool.not_true, Bool.not_false, hd1]; with_reducible rfl) | rfl)))))) | (((with_reducible apply sg_nil); (case hn => exact rfl); (case hx => exact xDK); (case ht => exact xTY); intro β hβ)) | (((with_reducible apply sg_bx); (case hn => exact rfl); (case hv => exact xLT); (case hc => exact xGS); (case hk => exact rfl))) | (((with_reducible apply sg_al); (case hn => exact rfl); (case hz => exact xTY); (case hc => exact xGS); (case hk => exact rfl))) | (((with_reducible apply sg_st); (case hx => exact xLK); (case hv => exact xLT); (case hc => exact xGS); (case hb => exact rfl); (case ht => exact xTY); (case hz => exact rfl); (case hs => exact xGS))) | (((with_reducible apply sg_e); (case hc => (intros; simp)); (case hs => (simp only [go_sem, Nat.reduceBEq, Nat.reduceBNe, Nat.reduceLT, Nat.reduceGT, Int.reduceGT, Int.reduceMul, Int.reduceAdd, Int.reduceSub, Nat.reduceAdd, Nat.reduceMul, Nat.reduceLeDiff, Nat.reduceEqDiff, Nat.reduceSub, Int.reduceNeg, Int.reduceToNat, Int.reduceLT, Int.reduceLE, Int.reduceEq, Int.cast_ofNat_Int, decide_true, decide_false, Bool.not_true, Bool.not_false, Bool.and_self, reduceIte, reduceCtorEq, hd1]; with_reducible rfl)))))
     | ((with_reducible apply s_n); (case hw => exact xWF); (case hd => exact rfl); (case hn => exact rfl))
     | ((with_reducible apply qs_ct); (case hc => exact xLK); (case he => exact xHB))
     | ((with_reducible apply qs_cf); (case hc => exact xLK); (case he => exact xHB))
     | ((with_reducible apply qs_cond); (case hc => exact xLK); (case hu => exact xUK); all_goals (intro hb))
     | ((with_reducible apply s_if); (case hg => exact rfl); (case hd => exact rfl); (case he => exact rfl); (case hu => exact xUK); all_goals (intro hb))
     | (apply post_2; (case h1 => first | exact r1_t rfl rfl | exact r1_a rfl | (simp only [go_sem, Nat.reduceBEq, Nat.reduceBNe, Nat.reduceLT, Nat.reduceGT, Int.reduceGT, Int.reduceMul, Int.reduceAdd, Int.reduceSub, Nat.reduceAdd, Nat.reduceMul, Nat.reduceLeDiff, Nat.reduceEqDiff, Nat.reduceSub, Int.reduceNeg, Int.reduceToNat, Int.reduceLT, Int.reduceLE, Int.reduceEq, Int.cast_ofNat_Int, decide_true, decide_false, Bool.not_true, Bool.not_false, Bool.and_self, reduceIte, reduceCtorEq]; with_reducible rfl)); (case h2 => exact r1_t rfl rfl); (case he => simp))
     | ((first | apply post_r | apply post_a); (case h1 => first | exact r1_t rfl rfl | (simp only [go_sem, Nat.reduceBEq, Nat.reduceBNe, Nat.reduceLT, Nat.reduceGT, Int.reduceGT, Int.reduceMul, Int.reduceAdd, Int.reduceSub, Nat.reduceAdd, Nat.reduceMul, Nat.reduceLeDiff, Nat.reduceEqDiff, Nat.reduceSub, Int.reduceNeg, Int.reduceToNat, Int.reduceLT, Int.reduceLE, Int.reduceEq, Int.cast_ofNat_Int, decide_true, decide_false, Bool.not_true, Bool.not_false, Bool.and_self, reduceIte, reduceCtorEq, hd1]; with_reducible rfl)); (case he => simp))
     | (refine hK _ ?_; clear hK)
     | (clear hK; refine hK _ ?_; clear hK)
     | (clear hK; clear hK; refine hK _ ?_; clear hK)
     | (clear hK; clear hK; clear hK; refine hK _ ?_; clear hK)
     | (clear hK; clear hK; clear hK; clear hK; refine hK _ ?_; clear hK)
     | fail
    all_goals (repeat (clear hK))
    all_goals first | done | rfl
  · rw [if_neg h0]
    have hd1 : decide (s = [226, 136, 133]) = false := decide_eq_false h0
    have k1 := c_digits s hs
    by_cases h1 : digsF s = false
    · rw [if_pos h1]
      rw [h1] at k1
      repeat' first
       | with_reducible first | refine thenQ_n ?_ | refine thenQ_r ?_ | refine thenQ_e ?_ | refine blockQ_n ?_ | refine blockQ_r ?_ | refine blockQ_e ?_ | refine tri_seq fun K hK => ?_ | refine tri_skip ?_ | refine tri_ret ?_ | refine tri_exit ?_ | refine tri_block ?_ | refine tri_region ?_ | refine sq_nil ?_
       | refine blockQ_o ?_ (by rfl)
       | ((with_reducible apply s_w); (case hw => exact xWT); first | ((with_reducible apply sg_q); (case hd => exact rfl); (case hn => exact rfl); (case he => (first | exact xE0 | ((with_reducible apply e_bi); (case hx => exact xDK); (case hy => exact xDK); (case hs => exact rfl); (case h => (simp only [binI, Int.reduceAdd, Int.reduceSub, Int.reduceMul, Int.reduceLT, Int.reduceLE, Int.reduceGT, Int.reduceEq, Int.reduceNeg, decide_true, decide_false, Bool.not_true, Bool.not_false, hd1]; with_reducible rfl))) | ((with_reducible apply e_ix); (case hx => exact xDK); (case hi => exact xDK); (case ht => exact xTY); (case hz => exact rfl); (case he => (simp only [hd1]; with_reducible rfl)); (case hc => exact xGS)) | ((with_reducible apply e_ln); (case hx => exact xDK); (case ht => exact xTY); (case hn => (first | (simp only [List.length_map, List.length_cons, List.length_nil, hd1]; with_reducible rfl) | rfl))) | ((with_reducible apply e_nt); (case hx => exact xDK); (case h => (first | (simp only [Bool.not_true, Bool.not_false, hd1]; with_reducible rfl) | rfl)))))) | (((with_reducible apply sg_k); (case ha => exact xDA); (case hfc => ((try simp only [hd1]); first | exact k1 )); (case hr => exact xRT))) | ((with_reducible apply sg_kv); (case hv => exact rfl); (case ha => exact xDA); (case hl => exact xLs); (case hfc => ((try simp only [hd1]); first | exact k1 )); (case hr => exact xRT)) | (((with_reducible apply sg_kf); (case hv => exact rfl); (case hc => (first | exact rfl | (simp only [go_sem]; rfl))); (case ha => exact xDA); (case hl => exact xLs); (case hfc => ((try simp only [hd1]); first | exact k1 )); (case hr => exact xRT))) | (((with_reducible apply sg_nil); (case hn => exact rfl); (case hx => exact xDK); (case ht => exact xTY); intro β hβ)) | (((with_reducible apply sg_bx); (case hn => exact rfl); (case hv => exact xLT); (case hc => exact xGS); (case hk => exact rfl))) | (((with_reducible apply sg_al); (case hn => exact rfl); (case hz => exact xTY); (case hc => exact xGS); (case hk => exact rfl))) | (((with_reducible apply sg_st); (case hx => exact xLK); (case hv => exact xLT); (case hc => exact xGS); (case hb => exact rfl); (case ht => exact xTY); (case hz => exact rfl); (case hs => exact xGS))) | (((with_reducible apply sg_e); (case hc => (intros; simp)); (case hs => (simp only [go_sem, Nat.reduceBEq, Nat.reduceBNe, Nat.reduceLT, Nat.reduceGT, Int.reduceGT, Int.reduceMul, Int.reduceAdd, Int.reduceSub, Nat.reduceAdd, Nat.reduceMul, Nat.reduceLeDiff, Nat.reduceEqDiff, Nat.reduceSub, Int.reduceNeg, Int.reduceToNat, Int.reduceLT, Int.reduceLE, Int.reduceEq, Int.cast_ofNat_Int, decide_true, decide_false, Bool.not_true, Bool.not_false, Bool.and_self, reduceIte, reduceCtorEq, hd1]; with_reducible rfl)))))
       | ((with_reducible apply s_n); (case hw => exact xWF); (case hd => exact rfl); (case hn => exact rfl))
       | ((with_reducible apply qs_ct); (case hc => exact xLK); (case he => exact xHB))
       | ((with_reducible apply qs_cf); (case hc => exact xLK); (case he => exact xHB))
       | ((with_reducible apply qs_cond); (case hc => exact xLK); (case hu => exact xUK); all_goals (intro hb))
       | ((with_reducible apply s_if); (case hg => exact rfl); (case hd => exact rfl); (case he => exact rfl); (case hu => exact xUK); all_goals (intro hb))
       | (apply post_2; (case h1 => first | exact r1_t rfl rfl | exact r1_a rfl | (simp only [go_sem, Nat.reduceBEq, Nat.reduceBNe, Nat.reduceLT, Nat.reduceGT, Int.reduceGT, Int.reduceMul, Int.reduceAdd, Int.reduceSub, Nat.reduceAdd, Nat.reduceMul, Nat.reduceLeDiff, Nat.reduceEqDiff, Nat.reduceSub, Int.reduceNeg, Int.reduceToNat, Int.reduceLT, Int.reduceLE, Int.reduceEq, Int.cast_ofNat_Int, decide_true, decide_false, Bool.not_true, Bool.not_false, Bool.and_self, reduceIte, reduceCtorEq]; with_reducible rfl)); (case h2 => exact r1_t rfl rfl); (case he => simp))
       | ((first | apply post_r | apply post_a); (case h1 => first | exact r1_t rfl rfl | (simp only [go_sem, Nat.reduceBEq, Nat.reduceBNe, Nat.reduceLT, Nat.reduceGT, Int.reduceGT, Int.reduceMul, Int.reduceAdd, Int.reduceSub, Nat.reduceAdd, Nat.reduceMul, Nat.reduceLeDiff, Nat.reduceEqDiff, Nat.reduceSub, Int.reduceNeg, Int.reduceToNat, Int.reduceLT, Int.reduceLE, Int.reduceEq, Int.cast_ofNat_Int, decide_true, decide_false, Bool.not_true, Bool.not_false, Bool.and_self, reduceIte, reduceCtorEq, hd1]; with_reducible rfl)); (case he => simp))
       | (refine hK _ ?_; clear hK)
       | (clear hK; refine hK _ ?_; clear hK)
       | (clear hK; clear hK; refine hK _ ?_; clear hK)
       | (clear hK; clear hK; clear hK; refine hK _ ?_; clear hK)
       | (clear hK; clear hK; clear hK; clear hK; refine hK _ ?_; clear hK)
       | fail
      all_goals (repeat (clear hK))
      all_goals first | done | rfl
    · rw [if_neg h1]
      have h2 : digsF s = true := by cases h : digsF s <;> simp_all
      rw [h2] at k1
      have hp := pi_of h2
      have key : ∀ e, Lib.parseIntB 64 s = e → (∃ v, e = .ok v ∧ (if minusF s = true then (if numA 0 (bodyF s) ≤ 9223372036854775808 then ((⟨false, -(numA 0 (bodyF s) : Int)⟩, 0) : Val × Int) else (⟨false, 0⟩, 3))
  else if numA 0 (bodyF s) < 9223372036854775808 then (⟨false, (numA 0 (bodyF s) : Int)⟩, 0) else (⟨false, 0⟩, 3)) = (⟨false, v⟩, 0)) ∨ (e = .range ∧ (if minusF s = true then (if numA 0 (bodyF s) ≤ 9223372036854775808 then ((⟨false, -(numA 0 (bodyF s) : Int)⟩, 0) : Val × Int) else (⟨false, 0⟩, 3))
  else if numA 0 (bodyF s) < 9223372036854775808 then (⟨false, (numA 0 (bodyF s) : Int)⟩, 0) else (⟨false, 0⟩, 3)) = (⟨false, 0⟩, 3)) := by
        intro e he
        rw [hp] at he
        subst he
        repeat' split
        all_goals first | exact .inl ⟨_, rfl, rfl⟩ | exact .inr ⟨rfl, rfl⟩
      rcases key _ rfl with ⟨v, hv, hE⟩ | ⟨hv, hE⟩
      · have k2 := c_pi_ok s v (by omega) hv
        rw [hE]
        repeat' first
         | with_reducible first | refine thenQ_n ?_ | refine thenQ_r ?_ | refine thenQ_e ?_ | refine blockQ_n ?_ | refine blockQ_r ?_ | refine blockQ_e ?_ | refine tri_seq fun K hK => ?_ | refine tri_skip ?_ | refine tri_ret ?_ | refine tri_exit ?_ | refine tri_block ?_ | refine tri_region ?_ | refine sq_nil ?_
         | refine blockQ_o ?_ (by rfl)
         | ((with_reducible apply s_w); (case hw => exact xWT); first | ((with_reducible apply sg_q); (case hd => exact rfl); (case hn => exact rfl); (case he => (first | exact xE0 | ((with_reducible apply e_bi); (case hx => exact xDK); (case hy => exact xDK); (case hs => exact rfl); (case h => (simp only [binI, Int.reduceAdd, Int.reduceSub, Int.reduceMul, Int.reduceLT, Int.reduceLE, Int.reduceGT, Int.reduceEq, Int.reduceNeg, decide_true, decide_false, Bool.not_true, Bool.not_false, hd1]; with_reducible rfl))) | ((with_reducible apply e_ix); (case hx => exact xDK); (case hi => exact xDK); (case ht => exact xTY); (case hz => exact rfl); (case he => (simp only [hd1]; with_reducible rfl)); (case hc => exact xGS)) | ((with_reducible apply e_ln); (case hx => exact xDK); (case ht => exact xTY); (case hn => (first | (simp only [List.length_map, List.length_cons, List.length_nil, hd1]; with_reducible rfl) | rfl))) | ((with_reducible apply e_nt); (case hx => exact xDK); (case h => (first | (simp only [Bool.not_true, Bool.not_false, hd1]; with_reducible rfl) | rfl)))))) | (((with_reducible apply sg_k); (case ha => exact xDA); (case hfc => ((try simp only [hd1]); first | exact k1 | exact k2 )); (case hr => exact xRT))) | ((with_reducible apply sg_kv); (case hv => exact rfl); (case ha => exact xDA); (case hl => exact xLs); (case hfc => ((try simp only [hd1]); first | exact k1 | exact k2 )); (case hr => exact xRT)) | (((with_reducible apply sg_kf); (case hv => exact rfl); (case hc => (first | exact rfl | (simp only [go_sem]; rfl))); (case ha => exact xDA); (case hl => exact xLs); (case hfc => ((try simp only [hd1]); first | exact k1 | exact k2 )); (case hr => exact xRT))) | (((with_reducible apply sg_nil); (case hn => exact rfl); (case hx => exact xDK); (case ht => exact xTY); intro β hβ)) | (((with_reducible apply sg_en); (case hn => exact rfl); (case hx => exact xDK); (case ht => exact rfl))) | (((with_reducible apply sg_ei); (case hn => exact rfl); (case hx => exact xDK); (case ht => exact rfl))) | (((with_reducible apply sg_bx); (case hn => exact rfl); (case hv => exact xLT); (case hc => exact xGS); (case hk => exact rfl))) | (((with_reducible apply sg_al); (case hn => exact rfl); (case hz => exact xTY); (case hc => exact xGS); (case hk => exact rfl))) | (((with_reducible apply sg_st); (case hx => exact xLK); (case hv => exact xLT); (case hc => exact xGS); (case hb => exact rfl); (case ht => exact xTY); (case hz => exact rfl); (case hs => exact xGS))) | (((with_reducible apply sg_e); (case hc => (intros; simp)); (case hs => (simp only [go_sem, Nat.reduceBEq, Nat.reduceBNe, Nat.reduceLT, Nat.reduceGT, Int.reduceGT, Int.reduceMul, Int.reduceAdd, Int.reduceSub, Nat.reduceAdd, Nat.reduceMul, Nat.reduceLeDiff, Nat.reduceEqDiff, Nat.reduceSub, Int.reduceNeg, Int.reduceToNat, Int.reduceLT, Int.reduceLE, Int.reduceEq, Int.cast_ofNat_Int, decide_true, decide_false, Bool.not_true, Bool.not_false, Bool.and_self, reduceIte, reduceCtorEq, hd1]; with_reducible rfl)))))
         | ((with_reducible apply s_n); (case hw => exact xWF); (case hd => exact rfl); (case hn => exact rfl))
         | ((with_reducible apply qs_ct); (case hc => exact xLK); (case he => exact xHB))
         | ((with_reducible apply qs_cf); (case hc => exact xLK); (case he => exact xHB))
         | ((with_reducible apply qs_cond); (case hc => exact xLK); (case hu => exact xUK); all_goals (intro hb))
         | ((with_reducible apply s_if); (case hg => exact rfl); (case hd => exact rfl); (case he => exact rfl); (case hu => exact xUK); all_goals (intro hb))
         | (apply post_2; (case h1 => first | exact r1_t rfl rfl | exact r1_a rfl | (simp only [go_sem, Nat.reduceBEq, Nat.reduceBNe, Nat.reduceLT, Nat.reduceGT, Int.reduceGT, Int.reduceMul, Int.reduceAdd, Int.reduceSub, Nat.reduceAdd, Nat.reduceMul, Nat.reduceLeDiff, Nat.reduceEqDiff, Nat.reduceSub, Int.reduceNeg, Int.reduceToNat, Int.reduceLT, Int.reduceLE, Int.reduceEq, Int.cast_ofNat_Int, decide_true, decide_false, Bool.not_true, Bool.not_false, Bool.and_self, reduceIte, reduceCtorEq]; with_reducible rfl)); (case h2 => exact r1_t rfl rfl); (case he => simp))
         | ((first | apply post_r | apply post_a); (case h1 => first | exact r1_t rfl rfl | (simp only [go_sem, Nat.reduceBEq, Nat.reduceBNe, Nat.reduceLT, Nat.reduceGT, Int.reduceGT, Int.reduceMul, Int.reduceAdd, Int.reduceSub, Nat.reduceAdd, Nat.reduceMul, Nat.reduceLeDiff, Nat.reduceEqDiff, Nat.reduceSub, Int.reduceNeg, Int.reduceToNat, Int.reduceLT, Int.reduceLE, Int.reduceEq, Int.cast_ofNat_Int, decide_true, decide_false, Bool.not_true, Bool.not_false, Bool.and_self, reduceIte, reduceCtorEq, hd1]; with_reducible rfl)); (case he => simp))
         | (refine hK _ ?_; clear hK)
         | (clear hK; refine hK _ ?_; clear hK)
         | (clear hK; clear hK; refine hK _ ?_; clear hK)
         | (clear hK; clear hK; clear hK; refine hK _ ?_; clear hK)
         | (clear hK; clear hK; clear hK; clear hK; refine hK _ ?_; clear hK)
         | fail
        all_goals (repeat (clear hK))
        all_goals first | done | rfl
      · obtain ⟨x, k2⟩ := c_pi_err s (by omega) (.inr hv)
        rw [hE]
        repeat' first
         | with_reducible first | refine thenQ_n ?_ | refine thenQ_r ?_ | refine thenQ_e ?_ | refine blockQ_n ?_ | refine blockQ_r ?_ | refine blockQ_e ?_ | refine tri_seq fun K hK => ?_ | refine tri_skip ?_ | refine tri_ret ?_ | refine tri_exit ?_ | refine tri_block ?_ | refine tri_region ?_ | refine sq_nil ?_
         | refine blockQ_o ?_ (by rfl)
         | ((with_reducible apply s_w); (case hw => exact xWT); first | ((with_reducible apply sg_q); (case hd => exact rfl); (case hn => exact rfl); (case he => (first | exact xE0 | ((with_reducible apply e_bi); (case hx => exact xDK); (case hy => exact xDK); (case hs => exact rfl); (case h => (simp only [binI, Int.reduceAdd, Int.reduceSub, Int.reduceMul, Int.reduceLT, Int.reduceLE, Int.reduceGT, Int.reduceEq, Int.reduceNeg, decide_true, decide_false, Bool.not_true, Bool.not_false, hd1]; with_reducible rfl))) | ((with_reducible apply e_ix); (case hx => exact xDK); (case hi => exact xDK); (case ht => exact xTY); (case hz => exact rfl); (case he => (simp only [hd1]; with_reducible rfl)); (case hc => exact xGS)) | ((with_reducible apply e_ln); (case hx => exact xDK); (case ht => exact xTY); (case hn => (first | (simp only [List.length_map, List.length_cons, List.length_nil, hd1]; with_reducible rfl) | rfl))) | ((with_reducible apply e_nt); (case hx => exact xDK); (case h => (first | (simp only [Bool.not_true, Bool.not_false, hd1]; with_reducible rfl) | rfl)))))) | (((with_reducible apply sg_k); (case ha => exact xDA); (case hfc => ((try simp only [hd1]); first | exact k1 | exact k2 )); (case hr => exact xRT))) | ((with_reducible apply sg_kv); (case hv => exact rfl); (case ha => exact xDA); (case hl => exact xLs); (case hfc => ((try simp only [hd1]); first | exact k1 | exact k2 )); (case hr => exact xRT)) | (((with_reducible apply sg_kf); (case hv => exact rfl); (case hc => (first | exact rfl | (simp only [go_sem]; rfl))); (case ha => exact xDA); (case hl => exact xLs); (case hfc => ((try simp only [hd1]); first | exact k1 | exact k2 )); (case hr => exact xRT))) | (((with_reducible apply sg_nil); (case hn => exact rfl); (case hx => exact xDK); (case ht => exact xTY); intro β hβ)) | (((with_reducible apply sg_en); (case hn => exact rfl); (case hx => exact xDK); (case ht => exact rfl))) | (((with_reducible apply sg_ei); (case hn => exact rfl); (case hx => exact xDK); (case ht => exact rfl))) | (((with_reducible apply sg_bx); (case hn => exact rfl); (case hv => exact xLT); (case hc => exact xGS); (case hk => exact rfl))) | (((with_reducible apply sg_al); (case hn => exact rfl); (case hz => exact xTY); (case hc => exact xGS); (case hk => exact rfl))) | (((with_reducible apply sg_st); (case hx => exact xLK); (case hv => exact xLT); (case hc => exact xGS); (case hb => exact rfl); (case ht => exact xTY); (case hz => exact rfl); (case hs => exact xGS))) | (((with_reducible apply sg_e); (case hc => (intros; simp)); (case hs => (simp only [go_sem, Nat.reduceBEq, Nat.reduceBNe, Nat.reduceLT, Nat.reduceGT, Int.reduceGT, Int.reduceMul, Int.reduceAdd, Int.reduceSub, Nat.reduceAdd, Nat.reduceMul, Nat.reduceLeDiff, Nat.reduceEqDiff, Nat.reduceSub, Int.reduceNeg, Int.reduceToNat, Int.reduceLT, Int.reduceLE, Int.reduceEq, Int.cast_ofNat_Int, decide_true, decide_false, Bool.not_true, Bool.not_false, Bool.and_self, reduceIte, reduceCtorEq, hd1]; with_reducible rfl)))))
         | ((with_reducible apply s_n); (case hw => exact xWF); (case hd => exact rfl); (case hn => exact rfl))
         | ((with_reducible apply qs_ct); (case hc => exact xLK); (case he => exact xHB))
         | ((with_reducible apply qs_cf); (case hc => exact xLK); (case he => exact xHB))
         | ((with_reducible apply qs_cond); (case hc => exact xLK); (case hu => exact xUK); all_goals (intro hb))
         | ((with_reducible apply s_if); (case hg => exact rfl); (case hd => exact rfl); (case he => exact rfl); (case hu => exact xUK); all_goals (intro hb))
         | (apply post_2; (case h1 => first | exact r1_t rfl rfl | exact r1_a rfl | (simp only [go_sem, Nat.reduceBEq, Nat.reduceBNe, Nat.reduceLT, Nat.reduceGT, Int.reduceGT, Int.reduceMul, Int.reduceAdd, Int.reduceSub, Nat.reduceAdd, Nat.reduceMul, Nat.reduceLeDiff, Nat.reduceEqDiff, Nat.reduceSub, Int.reduceNeg, Int.reduceToNat, Int.reduceLT, Int.reduceLE, Int.reduceEq, Int.cast_ofNat_Int, decide_true, decide_false, Bool.not_true, Bool.not_false, Bool.and_self, reduceIte, reduceCtorEq]; with_reducible rfl)); (case h2 => exact r1_t rfl rfl); (case he => simp))
         | ((first | apply post_r | apply post_a); (case h1 => first | exact r1_t rfl rfl | (simp only [go_sem, Nat.reduceBEq, Nat.reduceBNe, Nat.reduceLT, Nat.reduceGT, Int.reduceGT, Int.reduceMul, Int.reduceAdd, Int.reduceSub, Nat.reduceAdd, Nat.reduceMul, Nat.reduceLeDiff, Nat.reduceEqDiff, Nat.reduceSub, Int.reduceNeg, Int.reduceToNat, Int.reduceLT, Int.reduceLE, Int.reduceEq, Int.cast_ofNat_Int, decide_true, decide_false, Bool.not_true, Bool.not_false, Bool.and_self, reduceIte, reduceCtorEq, hd1]; with_reducible rfl)); (case he => simp))
         | (refine hK _ ?_; clear hK)
         | (clear hK; refine hK _ ?_; clear hK)
         | (clear hK; clear hK; refine hK _ ?_; clear hK)
         | (clear hK; clear hK; clear hK; refine hK _ ?_; clear hK)
         | (clear hK; clear hK; clear hK; clear hK; refine hK _ ?_; clear hK)
         | fail
        all_goals (repeat (clear hK))
        all_goals first | done | rfl

end Go.Proofs.YtenigafbbdjagaaDoor.AL
