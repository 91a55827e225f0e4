/- Contracts: what a predicate is: the function. -/
import Derived.Test.YtekdlkjonihglaaYF14
import Derived.Test.YtekdlkjonihglaaYF13b
import Derived.Test.YtekdlkjonihglaaYF1c
import Derived.Test.YtekdlkjonihglaaYAS2
namespace Go.Proofs.Ytekdlkjonihglaa.AL
open Go
set_option linter.unusedVariables false
set_option linter.unusedSimpArgs false
set_option maxRecDepth 4000
theorem not_of2 (t : Int) : IntKind.i64.wrap (2 - ofF t) = 2 - ofF t := not_of t

set_option maxHeartbeats 4000000 in
theorem c_prdOf (p : Prd) (rows : List (List Val)) (hn : (gathF tab1F p).length ≤ 1000000) : FC Try.prog 39 [p.e, rowsE rows] (.v (.int .i64 (ofPF rows p))) := by
  revert hn
  induction p using Prd.ind
  rename_i p ih
  intro hn
  have ih' : ∀ x ∈ p.parts, FC Try.prog 39 [x.e, rowsE rows] (.v (.int .i64 (ofPF rows x))) := fun x hx => ih x hx (part_nodes hn hx)
  have cparts := c_of1 p rows (parts_le hn) ih'
  have hz : decide ((0 : Int) < (p.parts.length : Int)) = true ∧ (∃ h0 : 0 < p.parts.length, ixA (p.parts.map Prd.e) 0 = some (p.parts[0].e) ∧ notHd (p.parts.map (ofPF rows)) = 2 - ofF (ofPF rows p.parts[0]) ∧ FC Try.prog 39 [p.parts[0].e, rowsE rows] (.v (.int .i64 (ofPF rows p.parts[0])))) ∨ decide ((0 : Int) < (p.parts.length : Int)) = false ∧ notHd (p.parts.map (ofPF rows)) = 1 := by
    by_cases h0 : 0 < p.parts.length
    · exact .inl ⟨by simp only [decide_eq_true_eq]; omega, h0, ixA_map (k := 0) h0, notHd_pos h0, ih' _ (List.getElem_mem h0)⟩
    · exact .inr ⟨by simp only [decide_eq_false_iff_not]; omega, notHd_neg h0⟩
  rw [ofPF_eq]
  rcases hz with ⟨hz, h0, hx0, hnot, hc0⟩ | ⟨hz, hnot⟩
  all_goals (try simp only [Prd.e_eq] at hc0)
  all_goals
   refine fc_of_body (nt := 59) (rs := [.tmp 4]) (ts := [(0, _), (1, _)]) Try.func39 rfl rfl rfl rfl (by decide) (Nat.le_of_ble_eq_true rfl) ?_

  ·
    repeat' first
      | (apply tri_frz 2 (by decide); (case hb => (simp only [go_sem, Nat.reduceBEq, Nat.reduceBNe, Nat.reduceLT, Nat.reduceGT, Int.reduceGT, Int.reduceMul, Int.reduceAdd, Int.reduceSub, Nat.reduceAdd, Nat.reduceMul, Nat.reduceLeDiff, Nat.reduceEqDiff, Nat.reduceSub, Int.reduceNeg, Int.reduceToNat, Int.reduceLT, Int.reduceLE, Int.cast_ofNat_Int, decide_true, decide_false, Bool.and_self, reduceIte, reduceCtorEq]; with_reducible rfl)); (case hc => (simp only [go_sem, Nat.reduceBEq, Nat.reduceBNe, Nat.reduceLT, Nat.reduceGT, Int.reduceGT, Int.reduceMul, Int.reduceAdd, Int.reduceSub, Nat.reduceAdd, Nat.reduceMul, Nat.reduceLeDiff, Nat.reduceEqDiff, Nat.reduceSub, Int.reduceNeg, Int.reduceToNat, Int.reduceLT, Int.reduceLE, Int.cast_ofNat_Int, decide_true, decide_false, Bool.and_self, reduceIte, reduceCtorEq]; with_reducible rfl)); try simp only [go_sem, Nat.reduceBEq])
      | (apply tri_frz 3 (by decide); (case hb => (simp only [go_sem, Nat.reduceBEq, Nat.reduceBNe, Nat.reduceLT, Nat.reduceGT, Int.reduceGT, Int.reduceMul, Int.reduceAdd, Int.reduceSub, Nat.reduceAdd, Nat.reduceMul, Nat.reduceLeDiff, Nat.reduceEqDiff, Nat.reduceSub, Int.reduceNeg, Int.reduceToNat, Int.reduceLT, Int.reduceLE, Int.cast_ofNat_Int, decide_true, decide_false, Bool.and_self, reduceIte, reduceCtorEq]; with_reducible rfl)); (case hc => (simp only [go_sem, Nat.reduceBEq, Nat.reduceBNe, Nat.reduceLT, Nat.reduceGT, Int.reduceGT, Int.reduceMul, Int.reduceAdd, Int.reduceSub, Nat.reduceAdd, Nat.reduceMul, Nat.reduceLeDiff, Nat.reduceEqDiff, Nat.reduceSub, Int.reduceNeg, Int.reduceToNat, Int.reduceLT, Int.reduceLE, Int.cast_ofNat_Int, decide_true, decide_false, Bool.and_self, reduceIte, reduceCtorEq]; with_reducible rfl)); try simp only [go_sem, Nat.reduceBEq])
      | refine thenQ_n ?_
      | refine thenQ_r ?_
      | refine thenQ_e ?_
      | refine blockQ_n ?_
      | refine blockQ_r ?_
      | refine blockQ_e ?_
      | refine blockQ_o ?_ (by rfl)
      | (refine tri_seq fun K hK => ?_)
      | refine tri_skip ?_
      | refine tri_ret ?_
      | refine tri_exit ?_
      | refine tri_block ?_
      | refine tri_region ?_
      | refine sq_nil ?_
      | (refine dr (id := 6) [0, 1, 2, 3, 4, 5, 6, 7, 8, 9, 10] [11] ?_)
      | (refine dr (id := 15) [0, 1, 2, 3, 4, 5, 6] [7] ?_)
      | (apply sq_c2; (case hc => rfl); (case hs => (simp only [go_sem, Nat.reduceBEq, Nat.reduceBNe, Nat.reduceLT, Nat.reduceGT, Int.reduceGT, Int.reduceMul, Int.reduceAdd, Int.reduceSub, Nat.reduceAdd, Nat.reduceMul, Nat.reduceLeDiff, Nat.reduceEqDiff, Nat.reduceSub, Int.reduceNeg, Int.reduceToNat, Int.reduceLT, Int.reduceLE, Int.cast_ofNat_Int, decide_true, decide_false, Bool.and_self, reduceIte, reduceCtorEq, List.length_map, hz, hx0, Try.underlying46, partA]; with_reducible rfl)); (case hfc => first | exact c_and [p.truth] | exact c_trmOf p.a rows | exact c_trmOf p.b rows | exact c_cmp p.op (trmOfF p.a rows) (trmOfF p.b rows) | exact c_logicOf (trmOfF p.a rows).null | exact cparts | exact c_and (p.parts.map (ofPF rows)) | exact c_or (p.parts.map (ofPF rows)) | exact hc0 | exact c_logicNot (ofPF rows p.parts[0])); (case hr => (simp only [go_sem, Nat.reduceBEq, Nat.reduceBNe, Nat.reduceLT, Nat.reduceGT, Int.reduceGT, Int.reduceMul, Int.reduceAdd, Int.reduceSub, Nat.reduceAdd, Nat.reduceMul, Nat.reduceLeDiff, Nat.reduceEqDiff, Nat.reduceSub, Int.reduceNeg, Int.reduceToNat, Int.reduceLT, Int.reduceLE, Int.cast_ofNat_Int, decide_true, decide_false, Bool.and_self, reduceIte, reduceCtorEq, List.length_map, hz, hx0, Try.underlying46, partA]; with_reducible rfl)))
      | (apply sq_go; (case hs => (simp only [go_sem, Nat.reduceBEq, Nat.reduceBNe, Nat.reduceLT, Nat.reduceGT, Int.reduceGT, Int.reduceMul, Int.reduceAdd, Int.reduceSub, Nat.reduceAdd, Nat.reduceMul, Nat.reduceLeDiff, Nat.reduceEqDiff, Nat.reduceSub, Int.reduceNeg, Int.reduceToNat, Int.reduceLT, Int.reduceLE, Int.cast_ofNat_Int, decide_true, decide_false, Bool.and_self, reduceIte, reduceCtorEq, List.length_map, hz, hx0, Try.underlying46, partA]; with_reducible rfl)))
      | (apply dq_c2; (case ho => rfl); (case hc => rfl); (case hs => (simp only [go_sem, Nat.reduceBEq, Nat.reduceBNe, Nat.reduceLT, Nat.reduceGT, Int.reduceGT, Int.reduceMul, Int.reduceAdd, Int.reduceSub, Nat.reduceAdd, Nat.reduceMul, Nat.reduceLeDiff, Nat.reduceEqDiff, Nat.reduceSub, Int.reduceNeg, Int.reduceToNat, Int.reduceLT, Int.reduceLE, Int.cast_ofNat_Int, decide_true, decide_false, Bool.and_self, reduceIte, reduceCtorEq, List.length_map, hz, hx0, Try.underlying46, partA]; with_reducible rfl)); (case hfc => first | exact c_and [p.truth] | exact c_trmOf p.a rows | exact c_trmOf p.b rows | exact c_cmp p.op (trmOfF p.a rows) (trmOfF p.b rows) | exact c_logicOf (trmOfF p.a rows).null | exact cparts | exact c_and (p.parts.map (ofPF rows)) | exact c_or (p.parts.map (ofPF rows)) | exact hc0 | exact c_logicNot (ofPF rows p.parts[0])); (case hr => (simp only [go_sem, Nat.reduceBEq, Nat.reduceBNe, Nat.reduceLT, Nat.reduceGT, Int.reduceGT, Int.reduceMul, Int.reduceAdd, Int.reduceSub, Nat.reduceAdd, Nat.reduceMul, Nat.reduceLeDiff, Nat.reduceEqDiff, Nat.reduceSub, Int.reduceNeg, Int.reduceToNat, Int.reduceLT, Int.reduceLE, Int.cast_ofNat_Int, decide_true, decide_false, Bool.and_self, reduceIte, reduceCtorEq, List.length_map, hz, hx0, Try.underlying46, partA]; with_reducible rfl)))
      | (apply dq_go; (case ho => rfl); (case hs => (simp only [go_sem, Nat.reduceBEq, Nat.reduceBNe, Nat.reduceLT, Nat.reduceGT, Int.reduceGT, Int.reduceMul, Int.reduceAdd, Int.reduceSub, Nat.reduceAdd, Nat.reduceMul, Nat.reduceLeDiff, Nat.reduceEqDiff, Nat.reduceSub, Int.reduceNeg, Int.reduceToNat, Int.reduceLT, Int.reduceLE, Int.cast_ofNat_Int, decide_true, decide_false, Bool.and_self, reduceIte, reduceCtorEq, List.length_map, hz, hx0, Try.underlying46, partA]; with_reducible rfl)))
      | (apply dq_no; (case ho => rfl); (case hs => (simp only [go_sem, Nat.reduceBEq, Nat.reduceBNe, Nat.reduceLT, Nat.reduceGT, Int.reduceGT, Int.reduceMul, Int.reduceAdd, Int.reduceSub, Nat.reduceAdd, Nat.reduceMul, Nat.reduceLeDiff, Nat.reduceEqDiff, Nat.reduceSub, Int.reduceNeg, Int.reduceToNat, Int.reduceLT, Int.reduceLE, Int.cast_ofNat_Int, decide_true, decide_false, Bool.and_self, reduceIte, reduceCtorEq, List.length_map, hz, hx0, Try.underlying46, partA]; with_reducible rfl)))
      | (apply dq_if; (case ho => rfl); (case hg => (simp only [go_sem, Nat.reduceBEq, Nat.reduceBNe, Nat.reduceLT, Nat.reduceGT, Int.reduceGT, Int.reduceMul, Int.reduceAdd, Int.reduceSub, Nat.reduceAdd, Nat.reduceMul, Nat.reduceLeDiff, Nat.reduceEqDiff, Nat.reduceSub, Int.reduceNeg, Int.reduceToNat, Int.reduceLT, Int.reduceLE, Int.cast_ofNat_Int, decide_true, decide_false, Bool.and_self, reduceIte, reduceCtorEq, List.length_map, hz, hx0, Try.underlying46, partA]; with_reducible rfl)); all_goals (intro hb; (try simp only [reduceCtorEq] at hb); (try simp only [hb])))
      | (refine dq_nil ?_; apply dq_end; (case hs => (simp only [go_sem, Nat.reduceBEq, Nat.reduceBNe, Nat.reduceLT, Nat.reduceGT, Int.reduceGT, Int.reduceMul, Int.reduceAdd, Int.reduceSub, Nat.reduceAdd, Nat.reduceMul, Nat.reduceLeDiff, Nat.reduceEqDiff, Nat.reduceSub, Int.reduceNeg, Int.reduceToNat, Int.reduceLT, Int.reduceLE, Int.cast_ofNat_Int, decide_true, decide_false, Bool.and_self, reduceIte, reduceCtorEq, List.length_map, hz, hx0, Try.underlying46, partA]; with_reducible rfl)); (case ht => rfl); (case hd => rfl))
      | (apply sq_no; (case hs => (simp only [go_sem, Nat.reduceBEq, Nat.reduceBNe, Nat.reduceLT, Nat.reduceGT, Int.reduceGT, Int.reduceMul, Int.reduceAdd, Int.reduceSub, Nat.reduceAdd, Nat.reduceMul, Nat.reduceLeDiff, Nat.reduceEqDiff, Nat.reduceSub, Int.reduceNeg, Int.reduceToNat, Int.reduceLT, Int.reduceLE, Int.cast_ofNat_Int, decide_true, decide_false, Bool.and_self, reduceIte, reduceCtorEq, List.length_map, hz, hx0, Try.underlying46, partA]; with_reducible rfl)))
      | (apply sq_if; (case hg => (simp only [go_sem, Nat.reduceBEq, Nat.reduceBNe, Nat.reduceLT, Nat.reduceGT, Int.reduceGT, Int.reduceMul, Int.reduceAdd, Int.reduceSub, Nat.reduceAdd, Nat.reduceMul, Nat.reduceLeDiff, Nat.reduceEqDiff, Nat.reduceSub, Int.reduceNeg, Int.reduceToNat, Int.reduceLT, Int.reduceLE, Int.cast_ofNat_Int, decide_true, decide_false, Bool.and_self, reduceIte, reduceCtorEq, List.length_map, hz, hx0, Try.underlying46, partA]; with_reducible rfl)); all_goals (intro hb; (try simp only [reduceCtorEq] at hb); (try simp only [hb])))
      | (apply tri_ci; (case hc => (simp only [go_sem, Nat.reduceBEq, Nat.reduceBNe, Nat.reduceLT, Nat.reduceGT, Int.reduceGT, Int.reduceMul, Int.reduceAdd, Int.reduceSub, Nat.reduceAdd, Nat.reduceMul, Nat.reduceLeDiff, Nat.reduceEqDiff, Nat.reduceSub, Int.reduceNeg, Int.reduceToNat, Int.reduceLT, Int.reduceLE, Int.cast_ofNat_Int, decide_true, decide_false, Bool.and_self, reduceIte, reduceCtorEq, List.length_map, hz, hx0, Try.underlying46, partA]; with_reducible rfl)); all_goals (intro hb; (try simp only [reduceCtorEq] at hb); (try simp only [hb])))
      | (apply post_r; (case h1 => (simp only [go_sem, Nat.reduceBEq, Nat.reduceBNe, Nat.reduceLT, Nat.reduceGT, Int.reduceGT, Int.reduceMul, Int.reduceAdd, Int.reduceSub, Nat.reduceAdd, Nat.reduceMul, Nat.reduceLeDiff, Nat.reduceEqDiff, Nat.reduceSub, Int.reduceNeg, Int.reduceToNat, Int.reduceLT, Int.reduceLE, Int.cast_ofNat_Int, decide_true, decide_false, Bool.and_self, reduceIte, reduceCtorEq, List.length_map, hz, hx0, Try.underlying46, partA]; with_reducible rfl)); (case he => simp))
      | (apply post_a; (case h1 => (simp only [go_sem, Nat.reduceBEq, Nat.reduceBNe, Nat.reduceLT, Nat.reduceGT, Int.reduceGT, Int.reduceMul, Int.reduceAdd, Int.reduceSub, Nat.reduceAdd, Nat.reduceMul, Nat.reduceLeDiff, Nat.reduceEqDiff, Nat.reduceSub, Int.reduceNeg, Int.reduceToNat, Int.reduceLT, Int.reduceLE, Int.cast_ofNat_Int, decide_true, decide_false, Bool.and_self, reduceIte, reduceCtorEq, List.length_map, hz, hx0, Try.underlying46, partA]; with_reducible rfl)); (case he => simp))
      | (refine hK _ ?_; clear hK)
      | (clear hK; refine hK _ ?_; clear hK)
      | (clear hK; clear hK; refine hK _ ?_; clear hK)
      | (clear hK; clear hK; clear hK; refine hK _ ?_; clear hK)
      | (clear hK; clear hK; clear hK; clear hK; refine hK _ ?_; clear hK)
      | fail
    all_goals (repeat (clear hK))
    all_goals (clear cparts ih ih' hc0; simp only [decide_eq_true_eq, decide_eq_false_iff_not] at *)
    all_goals (simp_all [ofK]; done)
  ·
    repeat' first
      | (apply tri_frz 2 (by decide); (case hb => (simp only [go_sem, Nat.reduceBEq, Nat.reduceBNe, Nat.reduceLT, Nat.reduceGT, Int.reduceGT, Int.reduceMul, Int.reduceAdd, Int.reduceSub, Nat.reduceAdd, Nat.reduceMul, Nat.reduceLeDiff, Nat.reduceEqDiff, Nat.reduceSub, Int.reduceNeg, Int.reduceToNat, Int.reduceLT, Int.reduceLE, Int.cast_ofNat_Int, decide_true, decide_false, Bool.and_self, reduceIte, reduceCtorEq]; with_reducible rfl)); (case hc => (simp only [go_sem, Nat.reduceBEq, Nat.reduceBNe, Nat.reduceLT, Nat.reduceGT, Int.reduceGT, Int.reduceMul, Int.reduceAdd, Int.reduceSub, Nat.reduceAdd, Nat.reduceMul, Nat.reduceLeDiff, Nat.reduceEqDiff, Nat.reduceSub, Int.reduceNeg, Int.reduceToNat, Int.reduceLT, Int.reduceLE, Int.cast_ofNat_Int, decide_true, decide_false, Bool.and_self, reduceIte, reduceCtorEq]; with_reducible rfl)); try simp only [go_sem, Nat.reduceBEq])
      | (apply tri_frz 3 (by decide); (case hb => (simp only [go_sem, Nat.reduceBEq, Nat.reduceBNe, Nat.reduceLT, Nat.reduceGT, Int.reduceGT, Int.reduceMul, Int.reduceAdd, Int.reduceSub, Nat.reduceAdd, Nat.reduceMul, Nat.reduceLeDiff, Nat.reduceEqDiff, Nat.reduceSub, Int.reduceNeg, Int.reduceToNat, Int.reduceLT, Int.reduceLE, Int.cast_ofNat_Int, decide_true, decide_false, Bool.and_self, reduceIte, reduceCtorEq]; with_reducible rfl)); (case hc => (simp only [go_sem, Nat.reduceBEq, Nat.reduceBNe, Nat.reduceLT, Nat.reduceGT, Int.reduceGT, Int.reduceMul, Int.reduceAdd, Int.reduceSub, Nat.reduceAdd, Nat.reduceMul, Nat.reduceLeDiff, Nat.reduceEqDiff, Nat.reduceSub, Int.reduceNeg, Int.reduceToNat, Int.reduceLT, Int.reduceLE, Int.cast_ofNat_Int, decide_true, decide_false, Bool.and_self, reduceIte, reduceCtorEq]; with_reducible rfl)); try simp only [go_sem, Nat.reduceBEq])
      | refine thenQ_n ?_
      | refine thenQ_r ?_
      | refine thenQ_e ?_
      | refine blockQ_n ?_
      | refine blockQ_r ?_
      | refine blockQ_e ?_
      | refine blockQ_o ?_ (by rfl)
      | (refine tri_seq fun K hK => ?_)
      | refine tri_skip ?_
      | refine tri_ret ?_
      | refine tri_exit ?_
      | refine tri_block ?_
      | refine tri_region ?_
      | refine sq_nil ?_
      | (refine dr (id := 6) [0, 1, 2, 3, 4, 5, 6, 7, 8, 9, 10] [11] ?_)
      | (refine dr (id := 15) [0, 1, 2, 3, 4, 5, 6] [7] ?_)
      | (apply sq_c2; (case hc => rfl); (case hs => (simp only [go_sem, Nat.reduceBEq, Nat.reduceBNe, Nat.reduceLT, Nat.reduceGT, Int.reduceGT, Int.reduceMul, Int.reduceAdd, Int.reduceSub, Nat.reduceAdd, Nat.reduceMul, Nat.reduceLeDiff, Nat.reduceEqDiff, Nat.reduceSub, Int.reduceNeg, Int.reduceToNat, Int.reduceLT, Int.reduceLE, Int.cast_ofNat_Int, decide_true, decide_false, Bool.and_self, reduceIte, reduceCtorEq, List.length_map, hz, Try.underlying46, partA]; with_reducible rfl)); (case hfc => first | exact c_and [p.truth] | exact c_trmOf p.a rows | exact c_trmOf p.b rows | exact c_cmp p.op (trmOfF p.a rows) (trmOfF p.b rows) | exact c_logicOf (trmOfF p.a rows).null | exact cparts | exact c_and (p.parts.map (ofPF rows)) | exact c_or (p.parts.map (ofPF rows))); (case hr => (simp only [go_sem, Nat.reduceBEq, Nat.reduceBNe, Nat.reduceLT, Nat.reduceGT, Int.reduceGT, Int.reduceMul, Int.reduceAdd, Int.reduceSub, Nat.reduceAdd, Nat.reduceMul, Nat.reduceLeDiff, Nat.reduceEqDiff, Nat.reduceSub, Int.reduceNeg, Int.reduceToNat, Int.reduceLT, Int.reduceLE, Int.cast_ofNat_Int, decide_true, decide_false, Bool.and_self, reduceIte, reduceCtorEq, List.length_map, hz, Try.underlying46, partA]; with_reducible rfl)))
      | (apply sq_go; (case hs => (simp only [go_sem, Nat.reduceBEq, Nat.reduceBNe, Nat.reduceLT, Nat.reduceGT, Int.reduceGT, Int.reduceMul, Int.reduceAdd, Int.reduceSub, Nat.reduceAdd, Nat.reduceMul, Nat.reduceLeDiff, Nat.reduceEqDiff, Nat.reduceSub, Int.reduceNeg, Int.reduceToNat, Int.reduceLT, Int.reduceLE, Int.cast_ofNat_Int, decide_true, decide_false, Bool.and_self, reduceIte, reduceCtorEq, List.length_map, hz, Try.underlying46, partA]; with_reducible rfl)))
      | (apply dq_c2; (case ho => rfl); (case hc => rfl); (case hs => (simp only [go_sem, Nat.reduceBEq, Nat.reduceBNe, Nat.reduceLT, Nat.reduceGT, Int.reduceGT, Int.reduceMul, Int.reduceAdd, Int.reduceSub, Nat.reduceAdd, Nat.reduceMul, Nat.reduceLeDiff, Nat.reduceEqDiff, Nat.reduceSub, Int.reduceNeg, Int.reduceToNat, Int.reduceLT, Int.reduceLE, Int.cast_ofNat_Int, decide_true, decide_false, Bool.and_self, reduceIte, reduceCtorEq, List.length_map, hz, Try.underlying46, partA]; with_reducible rfl)); (case hfc => first | exact c_and [p.truth] | exact c_trmOf p.a rows | exact c_trmOf p.b rows | exact c_cmp p.op (trmOfF p.a rows) (trmOfF p.b rows) | exact c_logicOf (trmOfF p.a rows).null | exact cparts | exact c_and (p.parts.map (ofPF rows)) | exact c_or (p.parts.map (ofPF rows))); (case hr => (simp only [go_sem, Nat.reduceBEq, Nat.reduceBNe, Nat.reduceLT, Nat.reduceGT, Int.reduceGT, Int.reduceMul, Int.reduceAdd, Int.reduceSub, Nat.reduceAdd, Nat.reduceMul, Nat.reduceLeDiff, Nat.reduceEqDiff, Nat.reduceSub, Int.reduceNeg, Int.reduceToNat, Int.reduceLT, Int.reduceLE, Int.cast_ofNat_Int, decide_true, decide_false, Bool.and_self, reduceIte, reduceCtorEq, List.length_map, hz, Try.underlying46, partA]; with_reducible rfl)))
      | (apply dq_go; (case ho => rfl); (case hs => (simp only [go_sem, Nat.reduceBEq, Nat.reduceBNe, Nat.reduceLT, Nat.reduceGT, Int.reduceGT, Int.reduceMul, Int.reduceAdd, Int.reduceSub, Nat.reduceAdd, Nat.reduceMul, Nat.reduceLeDiff, Nat.reduceEqDiff, Nat.reduceSub, Int.reduceNeg, Int.reduceToNat, Int.reduceLT, Int.reduceLE, Int.cast_ofNat_Int, decide_true, decide_false, Bool.and_self, reduceIte, reduceCtorEq, List.length_map, hz, Try.underlying46, partA]; with_reducible rfl)))
      | (apply dq_no; (case ho => rfl); (case hs => (simp only [go_sem, Nat.reduceBEq, Nat.reduceBNe, Nat.reduceLT, Nat.reduceGT, Int.reduceGT, Int.reduceMul, Int.reduceAdd, Int.reduceSub, Nat.reduceAdd, Nat.reduceMul, Nat.reduceLeDiff, Nat.reduceEqDiff, Nat.reduceSub, Int.reduceNeg, Int.reduceToNat, Int.reduceLT, Int.reduceLE, Int.cast_ofNat_Int, decide_true, decide_false, Bool.and_self, reduceIte, reduceCtorEq, List.length_map, hz, Try.underlying46, partA]; with_reducible rfl)))
      | (apply dq_if; (case ho => rfl); (case hg => (simp only [go_sem, Nat.reduceBEq, Nat.reduceBNe, Nat.reduceLT, Nat.reduceGT, Int.reduceGT, Int.reduceMul, Int.reduceAdd, Int.reduceSub, Nat.reduceAdd, Nat.reduceMul, Nat.reduceLeDiff, Nat.reduceEqDiff, Nat.reduceSub, Int.reduceNeg, Int.reduceToNat, Int.reduceLT, Int.reduceLE, Int.cast_ofNat_Int, decide_true, decide_false, Bool.and_self, reduceIte, reduceCtorEq, List.length_map, hz, Try.underlying46, partA]; with_reducible rfl)); all_goals (intro hb; (try simp only [reduceCtorEq] at hb); (try simp only [hb])))
      | (refine dq_nil ?_; apply dq_end; (case hs => (simp only [go_sem, Nat.reduceBEq, Nat.reduceBNe, Nat.reduceLT, Nat.reduceGT, Int.reduceGT, Int.reduceMul, Int.reduceAdd, Int.reduceSub, Nat.reduceAdd, Nat.reduceMul, Nat.reduceLeDiff, Nat.reduceEqDiff, Nat.reduceSub, Int.reduceNeg, Int.reduceToNat, Int.reduceLT, Int.reduceLE, Int.cast_ofNat_Int, decide_true, decide_false, Bool.and_self, reduceIte, reduceCtorEq, List.length_map, hz, Try.underlying46, partA]; with_reducible rfl)); (case ht => rfl); (case hd => rfl))
      | (apply sq_no; (case hs => (simp only [go_sem, Nat.reduceBEq, Nat.reduceBNe, Nat.reduceLT, Nat.reduceGT, Int.reduceGT, Int.reduceMul, Int.reduceAdd, Int.reduceSub, Nat.reduceAdd, Nat.reduceMul, Nat.reduceLeDiff, Nat.reduceEqDiff, Nat.reduceSub, Int.reduceNeg, Int.reduceToNat, Int.reduceLT, Int.reduceLE, Int.cast_ofNat_Int, decide_true, decide_false, Bool.and_self, reduceIte, reduceCtorEq, List.length_map, hz, Try.underlying46, partA]; with_reducible rfl)))
      | (apply sq_if; (case hg => (simp only [go_sem, Nat.reduceBEq, Nat.reduceBNe, Nat.reduceLT, Nat.reduceGT, Int.reduceGT, Int.reduceMul, Int.reduceAdd, Int.reduceSub, Nat.reduceAdd, Nat.reduceMul, Nat.reduceLeDiff, Nat.reduceEqDiff, Nat.reduceSub, Int.reduceNeg, Int.reduceToNat, Int.reduceLT, Int.reduceLE, Int.cast_ofNat_Int, decide_true, decide_false, Bool.and_self, reduceIte, reduceCtorEq, List.length_map, hz, Try.underlying46, partA]; with_reducible rfl)); all_goals (intro hb; (try simp only [reduceCtorEq] at hb); (try simp only [hb])))
      | (apply tri_ci; (case hc => (simp only [go_sem, Nat.reduceBEq, Nat.reduceBNe, Nat.reduceLT, Nat.reduceGT, Int.reduceGT, Int.reduceMul, Int.reduceAdd, Int.reduceSub, Nat.reduceAdd, Nat.reduceMul, Nat.reduceLeDiff, Nat.reduceEqDiff, Nat.reduceSub, Int.reduceNeg, Int.reduceToNat, Int.reduceLT, Int.reduceLE, Int.cast_ofNat_Int, decide_true, decide_false, Bool.and_self, reduceIte, reduceCtorEq, List.length_map, hz, Try.underlying46, partA]; with_reducible rfl)); all_goals (intro hb; (try simp only [reduceCtorEq] at hb); (try simp only [hb])))
      | (apply post_r; (case h1 => (simp only [go_sem, Nat.reduceBEq, Nat.reduceBNe, Nat.reduceLT, Nat.reduceGT, Int.reduceGT, Int.reduceMul, Int.reduceAdd, Int.reduceSub, Nat.reduceAdd, Nat.reduceMul, Nat.reduceLeDiff, Nat.reduceEqDiff, Nat.reduceSub, Int.reduceNeg, Int.reduceToNat, Int.reduceLT, Int.reduceLE, Int.cast_ofNat_Int, decide_true, decide_false, Bool.and_self, reduceIte, reduceCtorEq, List.length_map, hz, Try.underlying46, partA]; with_reducible rfl)); (case he => simp))
      | (apply post_a; (case h1 => (simp only [go_sem, Nat.reduceBEq, Nat.reduceBNe, Nat.reduceLT, Nat.reduceGT, Int.reduceGT, Int.reduceMul, Int.reduceAdd, Int.reduceSub, Nat.reduceAdd, Nat.reduceMul, Nat.reduceLeDiff, Nat.reduceEqDiff, Nat.reduceSub, Int.reduceNeg, Int.reduceToNat, Int.reduceLT, Int.reduceLE, Int.cast_ofNat_Int, decide_true, decide_false, Bool.and_self, reduceIte, reduceCtorEq, List.length_map, hz, Try.underlying46, partA]; with_reducible rfl)); (case he => simp))
      | (refine hK _ ?_; clear hK)
      | (clear hK; refine hK _ ?_; clear hK)
      | (clear hK; clear hK; refine hK _ ?_; clear hK)
      | (clear hK; clear hK; clear hK; refine hK _ ?_; clear hK)
      | (clear hK; clear hK; clear hK; clear hK; refine hK _ ?_; clear hK)
      | fail
    all_goals (repeat (clear hK))
    all_goals (clear cparts ih ih'; simp only [decide_eq_true_eq, decide_eq_false_iff_not] at *)
    all_goals (simp_all [ofK]; done)

end Go.Proofs.Ytekdlkjonihglaa.AL
