/- Contracts: the chapter's example. -/
import Derived.Test.YtigkkfhpnfjmhaaYF22
import Derived.Test.YtigkkfhpnfjmhaaYF21
import Derived.Test.YtigkkfhpnfjmhaaYF9
import Derived.Test.YtigkkfhpnfjmhaaYF11
namespace Go.Proofs.Ytigkkfhpnfjmhaa.AL
open Go
set_option linter.unusedVariables false
set_option linter.unusedSimpArgs false
set_option maxRecDepth 4000
def ex1 : List (List Val) := [[⟨false, 5⟩], [⟨true, 0⟩]]
def ex2 : List (List Val) := [[⟨false, 5⟩], [⟨false, 5⟩]]
theorem ex_of1 : ofPF ex1 (equalP 0 1) = 1 := by decide
theorem ex_of2 : ofPF ex2 (equalP 0 1) = 2 := by decide
theorem ex_right : atF (equalP 0 1) 1 = true := by decide
theorem ex_tabs : tabsF (equalP 0 1) = 3 := by decide
theorem ex_cols : (colsF (equalP 0 1)).length = 2 := by decide
theorem ex_same : sameF (equalP 0 1) (equalP 0 1) = true := by decide
theorem ex_all : ofPF [] (allP []) = 2 := by decide

set_option maxHeartbeats 4000000 in
theorem c_awake  : FC Try.prog 34 [] (.v (.bool true)) := by
  refine fc_of_body (nt := 46) (rs := [.tmp 0]) (ts := []) Try.func34 rfl rfl rfl rfl (by decide) (Nat.le_of_ble_eq_true rfl) ?_
  have h1 := c_equal 0 1
  have h2 := c_prdOf (equalP 0 1) ex1 (by decide)
  have h3 := c_prdOf (equalP 0 1) ex2 (by decide)
  have h4 := c_prdRight (equalP 0 1)
  have h5 := c_tabs (equalP 0 1) (by decide)
  have h6 := c_cols (equalP 0 1) (by decide)
  have h7 := c_copy (equalP 0 1) (by decide)
  have h8 := c_same (equalP 0 1) (equalP 0 1)
  have h9 := c_prdAll [] [] (by decide)
  have hl := ex_cols
  rw [ex_of1] at h2
  rw [ex_of2] at h3
  rw [ex_right] at h4
  rw [ex_tabs] at h5
  rw [ex_same] at h8
  rw [ex_all] at h9
  generalize colsF (equalP 0 1) = cl at h6 hl
  simp only [Prd.e_eq, equalP, Prd.kind, Prd.truth, Prd.op, Prd.a, Prd.b, Prd.parts, List.map_cons, List.map_nil, ex1, ex2, Val.e] at h1 h2 h3 h4 h5 h6 h7 h8 h9
  repeat' first
    | refine thenQ_n ?_
    | refine thenQ_r ?_
    | refine thenQ_e ?_
    | refine blockQ_n ?_
    | refine blockQ_r ?_
    | refine blockQ_e ?_
    | refine blockQ_o ?_ (by rfl)
    | (refine tri_seq fun K hK => ?_)
    | refine tri_skip ?_
    | refine tri_ret ?_
    | refine tri_exit ?_
    | refine tri_block ?_
    | refine tri_region ?_
    | refine sq_nil ?_
    | (refine dr (id := 2) [0, 1, 2, 3, 4, 5, 6, 7, 8, 9, 10, 11, 12, 13, 14, 15, 16, 17, 18, 19, 20, 21, 22, 23, 24, 25, 26, 27, 28, 29, 30, 31, 32, 33, 34, 35, 36, 37, 38, 39, 40, 41, 42] [43] ?_)
    | (apply sq_c2; (case hc => rfl); (case hs => (simp only [go_sem, Nat.reduceBEq, Nat.reduceBNe, Nat.reduceLT, Nat.reduceGT, Int.reduceGT, Int.reduceMul, Int.reduceAdd, Int.reduceSub, Nat.reduceAdd, Nat.reduceMul, Nat.reduceLeDiff, Nat.reduceEqDiff, Nat.reduceSub, Int.reduceNeg, Int.reduceToNat, Int.reduceLT, Int.reduceLE, Int.cast_ofNat_Int, decide_true, decide_false, Bool.and_self, reduceIte, reduceCtorEq, List.length_map, hl, Int.cast_ofNat_Int]; with_reducible rfl)); (case hfc => first | exact h1 | exact h2 | exact h3 | exact h4 | exact h5 | exact h6 | exact h7 | exact h8 | exact h9); (case hr => (simp only [go_sem, Nat.reduceBEq, Nat.reduceBNe, Nat.reduceLT, Nat.reduceGT, Int.reduceGT, Int.reduceMul, Int.reduceAdd, Int.reduceSub, Nat.reduceAdd, Nat.reduceMul, Nat.reduceLeDiff, Nat.reduceEqDiff, Nat.reduceSub, Int.reduceNeg, Int.reduceToNat, Int.reduceLT, Int.reduceLE, Int.cast_ofNat_Int, decide_true, decide_false, Bool.and_self, reduceIte, reduceCtorEq, List.length_map, hl, Int.cast_ofNat_Int]; with_reducible rfl)))
    | (apply sq_go; (case hs => (simp only [go_sem, Nat.reduceBEq, Nat.reduceBNe, Nat.reduceLT, Nat.reduceGT, Int.reduceGT, Int.reduceMul, Int.reduceAdd, Int.reduceSub, Nat.reduceAdd, Nat.reduceMul, Nat.reduceLeDiff, Nat.reduceEqDiff, Nat.reduceSub, Int.reduceNeg, Int.reduceToNat, Int.reduceLT, Int.reduceLE, Int.cast_ofNat_Int, decide_true, decide_false, Bool.and_self, reduceIte, reduceCtorEq, List.length_map, hl, Int.cast_ofNat_Int]; with_reducible rfl)))
    | (apply dq_c2; (case ho => rfl); (case hc => rfl); (case hs => (simp only [go_sem, Nat.reduceBEq, Nat.reduceBNe, Nat.reduceLT, Nat.reduceGT, Int.reduceGT, Int.reduceMul, Int.reduceAdd, Int.reduceSub, Nat.reduceAdd, Nat.reduceMul, Nat.reduceLeDiff, Nat.reduceEqDiff, Nat.reduceSub, Int.reduceNeg, Int.reduceToNat, Int.reduceLT, Int.reduceLE, Int.cast_ofNat_Int, decide_true, decide_false, Bool.and_self, reduceIte, reduceCtorEq, List.length_map, hl, Int.cast_ofNat_Int]; with_reducible rfl)); (case hfc => first | exact h1 | exact h2 | exact h3 | exact h4 | exact h5 | exact h6 | exact h7 | exact h8 | exact h9); (case hr => (simp only [go_sem, Nat.reduceBEq, Nat.reduceBNe, Nat.reduceLT, Nat.reduceGT, Int.reduceGT, Int.reduceMul, Int.reduceAdd, Int.reduceSub, Nat.reduceAdd, Nat.reduceMul, Nat.reduceLeDiff, Nat.reduceEqDiff, Nat.reduceSub, Int.reduceNeg, Int.reduceToNat, Int.reduceLT, Int.reduceLE, Int.cast_ofNat_Int, decide_true, decide_false, Bool.and_self, reduceIte, reduceCtorEq, List.length_map, hl, Int.cast_ofNat_Int]; with_reducible rfl)))
    | (apply dq_go; (case ho => rfl); (case hs => (simp only [go_sem, Nat.reduceBEq, Nat.reduceBNe, Nat.reduceLT, Nat.reduceGT, Int.reduceGT, Int.reduceMul, Int.reduceAdd, Int.reduceSub, Nat.reduceAdd, Nat.reduceMul, Nat.reduceLeDiff, Nat.reduceEqDiff, Nat.reduceSub, Int.reduceNeg, Int.reduceToNat, Int.reduceLT, Int.reduceLE, Int.cast_ofNat_Int, decide_true, decide_false, Bool.and_self, reduceIte, reduceCtorEq, List.length_map, hl, Int.cast_ofNat_Int]; with_reducible rfl)))
    | (apply dq_no; (case ho => rfl); (case hs => (simp only [go_sem, Nat.reduceBEq, Nat.reduceBNe, Nat.reduceLT, Nat.reduceGT, Int.reduceGT, Int.reduceMul, Int.reduceAdd, Int.reduceSub, Nat.reduceAdd, Nat.reduceMul, Nat.reduceLeDiff, Nat.reduceEqDiff, Nat.reduceSub, Int.reduceNeg, Int.reduceToNat, Int.reduceLT, Int.reduceLE, Int.cast_ofNat_Int, decide_true, decide_false, Bool.and_self, reduceIte, reduceCtorEq, List.length_map, hl, Int.cast_ofNat_Int]; with_reducible rfl)))
    | (apply dq_if; (case ho => rfl); (case hg => (simp only [go_sem, Nat.reduceBEq, Nat.reduceBNe, Nat.reduceLT, Nat.reduceGT, Int.reduceGT, Int.reduceMul, Int.reduceAdd, Int.reduceSub, Nat.reduceAdd, Nat.reduceMul, Nat.reduceLeDiff, Nat.reduceEqDiff, Nat.reduceSub, Int.reduceNeg, Int.reduceToNat, Int.reduceLT, Int.reduceLE, Int.cast_ofNat_Int, decide_true, decide_false, Bool.and_self, reduceIte, reduceCtorEq, List.length_map, hl, Int.cast_ofNat_Int]; with_reducible rfl)); all_goals (intro hb; (try simp only [reduceCtorEq] at hb); (try simp only [hb])))
    | (refine dq_nil ?_; apply dq_end; (case hs => (simp only [go_sem, Nat.reduceBEq, Nat.reduceBNe, Nat.reduceLT, Nat.reduceGT, Int.reduceGT, Int.reduceMul, Int.reduceAdd, Int.reduceSub, Nat.reduceAdd, Nat.reduceMul, Nat.reduceLeDiff, Nat.reduceEqDiff, Nat.reduceSub, Int.reduceNeg, Int.reduceToNat, Int.reduceLT, Int.reduceLE, Int.cast_ofNat_Int, decide_true, decide_false, Bool.and_self, reduceIte, reduceCtorEq, List.length_map, hl, Int.cast_ofNat_Int]; with_reducible rfl)); (case ht => rfl); (case hd => rfl))
    | (apply sq_no; (case hs => (simp only [go_sem, Nat.reduceBEq, Nat.reduceBNe, Nat.reduceLT, Nat.reduceGT, Int.reduceGT, Int.reduceMul, Int.reduceAdd, Int.reduceSub, Nat.reduceAdd, Nat.reduceMul, Nat.reduceLeDiff, Nat.reduceEqDiff, Nat.reduceSub, Int.reduceNeg, Int.reduceToNat, Int.reduceLT, Int.reduceLE, Int.cast_ofNat_Int, decide_true, decide_false, Bool.and_self, reduceIte, reduceCtorEq, List.length_map, hl, Int.cast_ofNat_Int]; with_reducible rfl)))
    | (apply sq_if; (case hg => (simp only [go_sem, Nat.reduceBEq, Nat.reduceBNe, Nat.reduceLT, Nat.reduceGT, Int.reduceGT, Int.reduceMul, Int.reduceAdd, Int.reduceSub, Nat.reduceAdd, Nat.reduceMul, Nat.reduceLeDiff, Nat.reduceEqDiff, Nat.reduceSub, Int.reduceNeg, Int.reduceToNat, Int.reduceLT, Int.reduceLE, Int.cast_ofNat_Int, decide_true, decide_false, Bool.and_self, reduceIte, reduceCtorEq, List.length_map, hl, Int.cast_ofNat_Int]; with_reducible rfl)); all_goals (intro hb; (try simp only [reduceCtorEq] at hb); (try simp only [hb])))
    | (apply tri_ci; (case hc => (simp only [go_sem, Nat.reduceBEq, Nat.reduceBNe, Nat.reduceLT, Nat.reduceGT, Int.reduceGT, Int.reduceMul, Int.reduceAdd, Int.reduceSub, Nat.reduceAdd, Nat.reduceMul, Nat.reduceLeDiff, Nat.reduceEqDiff, Nat.reduceSub, Int.reduceNeg, Int.reduceToNat, Int.reduceLT, Int.reduceLE, Int.cast_ofNat_Int, decide_true, decide_false, Bool.and_self, reduceIte, reduceCtorEq, List.length_map, hl, Int.cast_ofNat_Int]; with_reducible rfl)); all_goals (intro hb; (try simp only [reduceCtorEq] at hb); (try simp only [hb])))
    | (apply post_r; (case h1 => (simp only [go_sem, Nat.reduceBEq, Nat.reduceBNe, Nat.reduceLT, Nat.reduceGT, Int.reduceGT, Int.reduceMul, Int.reduceAdd, Int.reduceSub, Nat.reduceAdd, Nat.reduceMul, Nat.reduceLeDiff, Nat.reduceEqDiff, Nat.reduceSub, Int.reduceNeg, Int.reduceToNat, Int.reduceLT, Int.reduceLE, Int.cast_ofNat_Int, decide_true, decide_false, Bool.and_self, reduceIte, reduceCtorEq, List.length_map, hl, Int.cast_ofNat_Int]; with_reducible rfl)); (case he => simp))
    | (apply post_a; (case h1 => (simp only [go_sem, Nat.reduceBEq, Nat.reduceBNe, Nat.reduceLT, Nat.reduceGT, Int.reduceGT, Int.reduceMul, Int.reduceAdd, Int.reduceSub, Nat.reduceAdd, Nat.reduceMul, Nat.reduceLeDiff, Nat.reduceEqDiff, Nat.reduceSub, Int.reduceNeg, Int.reduceToNat, Int.reduceLT, Int.reduceLE, Int.cast_ofNat_Int, decide_true, decide_false, Bool.and_self, reduceIte, reduceCtorEq, List.length_map, hl, Int.cast_ofNat_Int]; with_reducible rfl)); (case he => simp))
    | (refine hK _ ?_; clear hK)
    | (clear hK; refine hK _ ?_; clear hK)
    | (clear hK; clear hK; refine hK _ ?_; clear hK)
    | (clear hK; clear hK; clear hK; refine hK _ ?_; clear hK)
    | (clear hK; clear hK; clear hK; clear hK; refine hK _ ?_; clear hK)
    | fail
  all_goals rfl

end Go.Proofs.Ytigkkfhpnfjmhaa.AL
