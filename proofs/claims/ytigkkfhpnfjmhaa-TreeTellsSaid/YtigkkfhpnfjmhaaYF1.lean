/- Contracts: values, logic, sets. -/
import Derived.Test.YtigkkfhpnfjmhaaYAS
namespace Go.Proofs.Ytigkkfhpnfjmhaa.AL
open Go
set_option linter.unusedVariables false
set_option linter.unusedSimpArgs false
set_option maxRecDepth 4000

structure Val where
  null : Bool
  n : Int
def Val.e (v : Val) : AV := .agg [.bool v.null, .int .i64 v.n]
attribute [go_sem] Val.e
abbrev AV.i (n : Int) : AV := .int .i64 n

def sideF (a b : Int) : Int := if a < b then 0 else if a = b then 1 else 2
def truthF (b : Bool) : Int := bif b then 2 else 0
def ofF (t : Int) : Int := if 0 ≤ t ∧ t ≤ 2 then t else 1
def refCmpF (op : Int) (a b : Val) : Int :=
  if a.null = true ∨ b.null = true then 1 else
  if op = 1 then truthF (decide (a.n = b.n)) else if op = 2 then truthF (decide (a.n ≠ b.n)) else if op = 3 then truthF (decide (a.n < b.n)) else
  if op = 4 then truthF (decide (a.n ≤ b.n)) else if op = 5 then truthF (decide (a.n > b.n)) else if op = 6 then truthF (decide (a.n ≥ b.n)) else 1

theorem c_side (a b : Int) : FC Try.prog 96 [.int .i64 a, .int .i64 b] (.v (.int .i64 (sideF a b))) := by
  refine fc_of_body (nt := 13) (rs := [.tmp 4]) (ts := [(0, _), (1, _)]) Try.func96 rfl rfl rfl rfl (by decide) (Nat.le_of_ble_eq_true rfl) ?_
  repeat' first
    | refine thenQ_n ?_
    | refine thenQ_r ?_
    | refine thenQ_e ?_
    | refine blockQ_n ?_
    | refine blockQ_r ?_
    | refine blockQ_e ?_
    | refine blockQ_o ?_ (by rfl)
    | (refine tri_seq fun K hK => ?_)
    | refine tri_skip ?_
    | refine tri_ret ?_
    | refine tri_exit ?_
    | refine tri_block ?_
    | refine tri_region ?_
    | refine sq_nil ?_
    | (apply sq_go; (case hs => (simp only [go_sem, Nat.reduceBEq, Nat.reduceLT, Nat.reduceGT, Int.reduceGT, Int.reduceMul, Int.reduceAdd, Int.reduceSub, Nat.reduceAdd, Nat.reduceMul, Nat.reduceLeDiff, Nat.reduceEqDiff, Nat.reduceSub, Int.reduceNeg, Int.reduceToNat, Int.reduceLT, Int.reduceLE, Int.cast_ofNat_Int, decide_true, decide_false, reduceIte, reduceCtorEq]; with_reducible rfl)))
    | (apply sq_no; (case hs => (simp only [go_sem, Nat.reduceBEq, Nat.reduceLT, Nat.reduceGT, Int.reduceGT, Int.reduceMul, Int.reduceAdd, Int.reduceSub, Nat.reduceAdd, Nat.reduceMul, Nat.reduceLeDiff, Nat.reduceEqDiff, Nat.reduceSub, Int.reduceNeg, Int.reduceToNat, Int.reduceLT, Int.reduceLE, Int.cast_ofNat_Int, decide_true, decide_false, reduceIte, reduceCtorEq]; with_reducible rfl)))
    | (apply sq_if; (case hg => (simp only [go_sem, Nat.reduceBEq, Nat.reduceLT, Nat.reduceGT, Int.reduceGT, Int.reduceMul, Int.reduceAdd, Int.reduceSub, Nat.reduceAdd, Nat.reduceMul, Nat.reduceLeDiff, Nat.reduceEqDiff, Nat.reduceSub, Int.reduceNeg, Int.reduceToNat, Int.reduceLT, Int.reduceLE, Int.cast_ofNat_Int, decide_true, decide_false, reduceIte, reduceCtorEq]; with_reducible rfl)); all_goals (intro hb; (try simp only [reduceCtorEq] at hb); (try simp only [hb])))
    | (apply tri_ci; (case hc => (simp only [go_sem, Nat.reduceBEq, Nat.reduceLT, Nat.reduceGT, Int.reduceGT, Int.reduceMul, Int.reduceAdd, Int.reduceSub, Nat.reduceAdd, Nat.reduceMul, Nat.reduceLeDiff, Nat.reduceEqDiff, Nat.reduceSub, Int.reduceNeg, Int.reduceToNat, Int.reduceLT, Int.reduceLE, Int.cast_ofNat_Int, decide_true, decide_false, reduceIte, reduceCtorEq]; with_reducible rfl)); all_goals (intro hb; (try simp only [reduceCtorEq] at hb); (try simp only [hb])))
    | (apply post_r; (case h1 => (simp only [go_sem, Nat.reduceBEq, Nat.reduceLT, Nat.reduceGT, Int.reduceGT, Int.reduceMul, Int.reduceAdd, Int.reduceSub, Nat.reduceAdd, Nat.reduceMul, Nat.reduceLeDiff, Nat.reduceEqDiff, Nat.reduceSub, Int.reduceNeg, Int.reduceToNat, Int.reduceLT, Int.reduceLE, Int.cast_ofNat_Int, decide_true, decide_false, reduceIte, reduceCtorEq]; with_reducible rfl)); (case he => simp))
    | (apply post_a; (case h1 => (simp only [go_sem, Nat.reduceBEq, Nat.reduceLT, Nat.reduceGT, Int.reduceGT, Int.reduceMul, Int.reduceAdd, Int.reduceSub, Nat.reduceAdd, Nat.reduceMul, Nat.reduceLeDiff, Nat.reduceEqDiff, Nat.reduceSub, Int.reduceNeg, Int.reduceToNat, Int.reduceLT, Int.reduceLE, Int.cast_ofNat_Int, decide_true, decide_false, reduceIte, reduceCtorEq]; with_reducible rfl)); (case he => simp))
    | (refine hK _ ?_; clear hK)
    | (clear hK; refine hK _ ?_; clear hK)
    | (clear hK; clear hK; refine hK _ ?_; clear hK)
    | (clear hK; clear hK; clear hK; refine hK _ ?_; clear hK)
    | (clear hK; clear hK; clear hK; clear hK; refine hK _ ?_; clear hK)
    | fail
  all_goals (repeat (clear hK))
  all_goals first | done | (simp_all [sideF]; done) | grind [sideF]

theorem c_valRight (v : Val) : FC Try.prog 108 [v.e] (.v (.bool (!v.null || decide (v.n = 0)))) := by
  refine fc_of_body (nt := 11) (rs := [.tmp 2]) (ts := [(0, _)]) Try.func108 rfl rfl rfl rfl (by decide) (Nat.le_of_ble_eq_true rfl) ?_
  repeat' first
    | refine thenQ_n ?_
    | refine thenQ_r ?_
    | refine thenQ_e ?_
    | refine blockQ_n ?_
    | refine blockQ_r ?_
    | refine blockQ_e ?_
    | refine blockQ_o ?_ (by rfl)
    | (refine tri_seq fun K hK => ?_)
    | refine tri_skip ?_
    | refine tri_ret ?_
    | refine tri_exit ?_
    | refine tri_block ?_
    | refine tri_region ?_
    | refine sq_nil ?_
    | (apply sq_go; (case hs => (simp only [go_sem, Nat.reduceBEq, Nat.reduceLT, Nat.reduceGT, Int.reduceGT, Int.reduceMul, Int.reduceAdd, Int.reduceSub, Nat.reduceAdd, Nat.reduceMul, Nat.reduceLeDiff, Nat.reduceEqDiff, Nat.reduceSub, Int.reduceNeg, Int.reduceToNat, Int.reduceLT, Int.reduceLE, Int.cast_ofNat_Int, decide_true, decide_false, reduceIte, reduceCtorEq]; with_reducible rfl)))
    | (apply sq_no; (case hs => (simp only [go_sem, Nat.reduceBEq, Nat.reduceLT, Nat.reduceGT, Int.reduceGT, Int.reduceMul, Int.reduceAdd, Int.reduceSub, Nat.reduceAdd, Nat.reduceMul, Nat.reduceLeDiff, Nat.reduceEqDiff, Nat.reduceSub, Int.reduceNeg, Int.reduceToNat, Int.reduceLT, Int.reduceLE, Int.cast_ofNat_Int, decide_true, decide_false, reduceIte, reduceCtorEq]; with_reducible rfl)))
    | (apply sq_if; (case hg => (simp only [go_sem, Nat.reduceBEq, Nat.reduceLT, Nat.reduceGT, Int.reduceGT, Int.reduceMul, Int.reduceAdd, Int.reduceSub, Nat.reduceAdd, Nat.reduceMul, Nat.reduceLeDiff, Nat.reduceEqDiff, Nat.reduceSub, Int.reduceNeg, Int.reduceToNat, Int.reduceLT, Int.reduceLE, Int.cast_ofNat_Int, decide_true, decide_false, reduceIte, reduceCtorEq]; with_reducible rfl)); all_goals (intro hb; (try simp only [reduceCtorEq] at hb); (try simp only [hb])))
    | (apply tri_ci; (case hc => (simp only [go_sem, Nat.reduceBEq, Nat.reduceLT, Nat.reduceGT, Int.reduceGT, Int.reduceMul, Int.reduceAdd, Int.reduceSub, Nat.reduceAdd, Nat.reduceMul, Nat.reduceLeDiff, Nat.reduceEqDiff, Nat.reduceSub, Int.reduceNeg, Int.reduceToNat, Int.reduceLT, Int.reduceLE, Int.cast_ofNat_Int, decide_true, decide_false, reduceIte, reduceCtorEq]; with_reducible rfl)); all_goals (intro hb; (try simp only [reduceCtorEq] at hb); (try simp only [hb])))
    | (apply post_r; (case h1 => (simp only [go_sem, Nat.reduceBEq, Nat.reduceLT, Nat.reduceGT, Int.reduceGT, Int.reduceMul, Int.reduceAdd, Int.reduceSub, Nat.reduceAdd, Nat.reduceMul, Nat.reduceLeDiff, Nat.reduceEqDiff, Nat.reduceSub, Int.reduceNeg, Int.reduceToNat, Int.reduceLT, Int.reduceLE, Int.cast_ofNat_Int, decide_true, decide_false, reduceIte, reduceCtorEq]; with_reducible rfl)); (case he => simp))
    | (apply post_a; (case h1 => (simp only [go_sem, Nat.reduceBEq, Nat.reduceLT, Nat.reduceGT, Int.reduceGT, Int.reduceMul, Int.reduceAdd, Int.reduceSub, Nat.reduceAdd, Nat.reduceMul, Nat.reduceLeDiff, Nat.reduceEqDiff, Nat.reduceSub, Int.reduceNeg, Int.reduceToNat, Int.reduceLT, Int.reduceLE, Int.cast_ofNat_Int, decide_true, decide_false, reduceIte, reduceCtorEq]; with_reducible rfl)); (case he => simp))
    | (refine hK _ ?_; clear hK)
    | (clear hK; refine hK _ ?_; clear hK)
    | (clear hK; clear hK; refine hK _ ?_; clear hK)
    | (clear hK; clear hK; clear hK; refine hK _ ?_; clear hK)
    | (clear hK; clear hK; clear hK; clear hK; refine hK _ ?_; clear hK)
    | fail
  all_goals (repeat (clear hK))
  all_goals first | done | (simp_all; done) | grind

theorem c_truth (b : Bool) : FC Try.prog 92 [.bool b] (.v (.int .i64 (truthF b))) := by
  refine fc_of_body (nt := 4) (rs := [.tmp 2]) (ts := [(0, _)]) Try.func92 rfl rfl rfl rfl (by decide) (Nat.le_of_ble_eq_true rfl) ?_
  repeat' first
    | refine thenQ_n ?_
    | refine thenQ_r ?_
    | refine thenQ_e ?_
    | refine blockQ_n ?_
    | refine blockQ_r ?_
    | refine blockQ_e ?_
    | refine blockQ_o ?_ (by rfl)
    | (refine tri_seq fun K hK => ?_)
    | refine tri_skip ?_
    | refine tri_ret ?_
    | refine tri_exit ?_
    | refine tri_block ?_
    | refine tri_region ?_
    | refine sq_nil ?_
    | (apply sq_go; (case hs => (simp only [go_sem, Nat.reduceBEq, Nat.reduceLT, Nat.reduceGT, Int.reduceGT, Int.reduceMul, Int.reduceAdd, Int.reduceSub, Nat.reduceAdd, Nat.reduceMul, Nat.reduceLeDiff, Nat.reduceEqDiff, Nat.reduceSub, Int.reduceNeg, Int.reduceToNat, Int.reduceLT, Int.reduceLE, Int.cast_ofNat_Int, decide_true, decide_false, reduceIte, reduceCtorEq]; with_reducible rfl)))
    | (apply sq_no; (case hs => (simp only [go_sem, Nat.reduceBEq, Nat.reduceLT, Nat.reduceGT, Int.reduceGT, Int.reduceMul, Int.reduceAdd, Int.reduceSub, Nat.reduceAdd, Nat.reduceMul, Nat.reduceLeDiff, Nat.reduceEqDiff, Nat.reduceSub, Int.reduceNeg, Int.reduceToNat, Int.reduceLT, Int.reduceLE, Int.cast_ofNat_Int, decide_true, decide_false, reduceIte, reduceCtorEq]; with_reducible rfl)))
    | (apply sq_if; (case hg => (simp only [go_sem, Nat.reduceBEq, Nat.reduceLT, Nat.reduceGT, Int.reduceGT, Int.reduceMul, Int.reduceAdd, Int.reduceSub, Nat.reduceAdd, Nat.reduceMul, Nat.reduceLeDiff, Nat.reduceEqDiff, Nat.reduceSub, Int.reduceNeg, Int.reduceToNat, Int.reduceLT, Int.reduceLE, Int.cast_ofNat_Int, decide_true, decide_false, reduceIte, reduceCtorEq]; with_reducible rfl)); all_goals (intro hb; (try simp only [reduceCtorEq] at hb); (try simp only [hb])))
    | (apply tri_ci; (case hc => (simp only [go_sem, Nat.reduceBEq, Nat.reduceLT, Nat.reduceGT, Int.reduceGT, Int.reduceMul, Int.reduceAdd, Int.reduceSub, Nat.reduceAdd, Nat.reduceMul, Nat.reduceLeDiff, Nat.reduceEqDiff, Nat.reduceSub, Int.reduceNeg, Int.reduceToNat, Int.reduceLT, Int.reduceLE, Int.cast_ofNat_Int, decide_true, decide_false, reduceIte, reduceCtorEq]; with_reducible rfl)); all_goals (intro hb; (try simp only [reduceCtorEq] at hb); (try simp only [hb])))
    | (apply post_r; (case h1 => (simp only [go_sem, Nat.reduceBEq, Nat.reduceLT, Nat.reduceGT, Int.reduceGT, Int.reduceMul, Int.reduceAdd, Int.reduceSub, Nat.reduceAdd, Nat.reduceMul, Nat.reduceLeDiff, Nat.reduceEqDiff, Nat.reduceSub, Int.reduceNeg, Int.reduceToNat, Int.reduceLT, Int.reduceLE, Int.cast_ofNat_Int, decide_true, decide_false, reduceIte, reduceCtorEq]; with_reducible rfl)); (case he => simp))
    | (apply post_a; (case h1 => (simp only [go_sem, Nat.reduceBEq, Nat.reduceLT, Nat.reduceGT, Int.reduceGT, Int.reduceMul, Int.reduceAdd, Int.reduceSub, Nat.reduceAdd, Nat.reduceMul, Nat.reduceLeDiff, Nat.reduceEqDiff, Nat.reduceSub, Int.reduceNeg, Int.reduceToNat, Int.reduceLT, Int.reduceLE, Int.cast_ofNat_Int, decide_true, decide_false, reduceIte, reduceCtorEq]; with_reducible rfl)); (case he => simp))
    | (refine hK _ ?_; clear hK)
    | (clear hK; refine hK _ ?_; clear hK)
    | (clear hK; clear hK; refine hK _ ?_; clear hK)
    | (clear hK; clear hK; clear hK; refine hK _ ?_; clear hK)
    | (clear hK; clear hK; clear hK; clear hK; refine hK _ ?_; clear hK)
    | fail
  all_goals (repeat (clear hK))
  all_goals first | done | (simp_all [truthF]; done) | grind [truthF]

theorem c_refValRight (v : Val) : FC Try.prog 110 [v.e] (.v (.bool (!v.null || decide (v.n = 0)))) := by
  refine fc_of_body (nt := 8) (rs := [.tmp 2]) (ts := [(0, _)]) Try.func110 rfl rfl rfl rfl (by decide) (Nat.le_of_ble_eq_true rfl) ?_
  repeat' first
    | refine thenQ_n ?_
    | refine thenQ_r ?_
    | refine thenQ_e ?_
    | refine blockQ_n ?_
    | refine blockQ_r ?_
    | refine blockQ_e ?_
    | refine blockQ_o ?_ (by rfl)
    | (refine tri_seq fun K hK => ?_)
    | refine tri_skip ?_
    | refine tri_ret ?_
    | refine tri_exit ?_
    | refine tri_block ?_
    | refine tri_region ?_
    | refine sq_nil ?_
    | (apply sq_go; (case hs => (simp only [go_sem, Nat.reduceBEq, Nat.reduceLT, Nat.reduceGT, Int.reduceGT, Int.reduceMul, Int.reduceAdd, Int.reduceSub, Nat.reduceAdd, Nat.reduceMul, Nat.reduceLeDiff, Nat.reduceEqDiff, Nat.reduceSub, Int.reduceNeg, Int.reduceToNat, Int.reduceLT, Int.reduceLE, Int.cast_ofNat_Int, decide_true, decide_false, reduceIte, reduceCtorEq]; with_reducible rfl)))
    | (apply sq_no; (case hs => (simp only [go_sem, Nat.reduceBEq, Nat.reduceLT, Nat.reduceGT, Int.reduceGT, Int.reduceMul, Int.reduceAdd, Int.reduceSub, Nat.reduceAdd, Nat.reduceMul, Nat.reduceLeDiff, Nat.reduceEqDiff, Nat.reduceSub, Int.reduceNeg, Int.reduceToNat, Int.reduceLT, Int.reduceLE, Int.cast_ofNat_Int, decide_true, decide_false, reduceIte, reduceCtorEq]; with_reducible rfl)))
    | (apply sq_if; (case hg => (simp only [go_sem, Nat.reduceBEq, Nat.reduceLT, Nat.reduceGT, Int.reduceGT, Int.reduceMul, Int.reduceAdd, Int.reduceSub, Nat.reduceAdd, Nat.reduceMul, Nat.reduceLeDiff, Nat.reduceEqDiff, Nat.reduceSub, Int.reduceNeg, Int.reduceToNat, Int.reduceLT, Int.reduceLE, Int.cast_ofNat_Int, decide_true, decide_false, reduceIte, reduceCtorEq]; with_reducible rfl)); all_goals (intro hb; (try simp only [reduceCtorEq] at hb); (try simp only [hb])))
    | (apply tri_ci; (case hc => (simp only [go_sem, Nat.reduceBEq, Nat.reduceLT, Nat.reduceGT, Int.reduceGT, Int.reduceMul, Int.reduceAdd, Int.reduceSub, Nat.reduceAdd, Nat.reduceMul, Nat.reduceLeDiff, Nat.reduceEqDiff, Nat.reduceSub, Int.reduceNeg, Int.reduceToNat, Int.reduceLT, Int.reduceLE, Int.cast_ofNat_Int, decide_true, decide_false, reduceIte, reduceCtorEq]; with_reducible rfl)); all_goals (intro hb; (try simp only [reduceCtorEq] at hb); (try simp only [hb])))
    | (apply post_r; (case h1 => (simp only [go_sem, Nat.reduceBEq, Nat.reduceLT, Nat.reduceGT, Int.reduceGT, Int.reduceMul, Int.reduceAdd, Int.reduceSub, Nat.reduceAdd, Nat.reduceMul, Nat.reduceLeDiff, Nat.reduceEqDiff, Nat.reduceSub, Int.reduceNeg, Int.reduceToNat, Int.reduceLT, Int.reduceLE, Int.cast_ofNat_Int, decide_true, decide_false, reduceIte, reduceCtorEq]; with_reducible rfl)); (case he => simp))
    | (apply post_a; (case h1 => (simp only [go_sem, Nat.reduceBEq, Nat.reduceLT, Nat.reduceGT, Int.reduceGT, Int.reduceMul, Int.reduceAdd, Int.reduceSub, Nat.reduceAdd, Nat.reduceMul, Nat.reduceLeDiff, Nat.reduceEqDiff, Nat.reduceSub, Int.reduceNeg, Int.reduceToNat, Int.reduceLT, Int.reduceLE, Int.cast_ofNat_Int, decide_true, decide_false, reduceIte, reduceCtorEq]; with_reducible rfl)); (case he => simp))
    | (refine hK _ ?_; clear hK)
    | (clear hK; refine hK _ ?_; clear hK)
    | (clear hK; clear hK; refine hK _ ?_; clear hK)
    | (clear hK; clear hK; clear hK; refine hK _ ?_; clear hK)
    | (clear hK; clear hK; clear hK; clear hK; refine hK _ ?_; clear hK)
    | fail
  all_goals (repeat (clear hK))
  all_goals first | done | (simp_all; done) | grind

theorem c_logicRight (t : Int) : FC Try.prog 100 [.int .i64 t] (.v (.bool (decide (0 ≤ t ∧ t ≤ 2)))) := by
  refine fc_of_body (nt := 9) (rs := [.tmp 2]) (ts := [(0, _)]) Try.func100 rfl rfl rfl rfl (by decide) (Nat.le_of_ble_eq_true rfl) ?_
  repeat' first
    | refine thenQ_n ?_
    | refine thenQ_r ?_
    | refine thenQ_e ?_
    | refine blockQ_n ?_
    | refine blockQ_r ?_
    | refine blockQ_e ?_
    | refine blockQ_o ?_ (by rfl)
    | (refine tri_seq fun K hK => ?_)
    | refine tri_skip ?_
    | refine tri_ret ?_
    | refine tri_exit ?_
    | refine tri_block ?_
    | refine tri_region ?_
    | refine sq_nil ?_
    | (apply sq_go; (case hs => (simp only [go_sem, Nat.reduceBEq, Nat.reduceLT, Nat.reduceGT, Int.reduceGT, Int.reduceMul, Int.reduceAdd, Int.reduceSub, Nat.reduceAdd, Nat.reduceMul, Nat.reduceLeDiff, Nat.reduceEqDiff, Nat.reduceSub, Int.reduceNeg, Int.reduceToNat, Int.reduceLT, Int.reduceLE, Int.cast_ofNat_Int, decide_true, decide_false, reduceIte, reduceCtorEq]; with_reducible rfl)))
    | (apply sq_no; (case hs => (simp only [go_sem, Nat.reduceBEq, Nat.reduceLT, Nat.reduceGT, Int.reduceGT, Int.reduceMul, Int.reduceAdd, Int.reduceSub, Nat.reduceAdd, Nat.reduceMul, Nat.reduceLeDiff, Nat.reduceEqDiff, Nat.reduceSub, Int.reduceNeg, Int.reduceToNat, Int.reduceLT, Int.reduceLE, Int.cast_ofNat_Int, decide_true, decide_false, reduceIte, reduceCtorEq]; with_reducible rfl)))
    | (apply sq_if; (case hg => (simp only [go_sem, Nat.reduceBEq, Nat.reduceLT, Nat.reduceGT, Int.reduceGT, Int.reduceMul, Int.reduceAdd, Int.reduceSub, Nat.reduceAdd, Nat.reduceMul, Nat.reduceLeDiff, Nat.reduceEqDiff, Nat.reduceSub, Int.reduceNeg, Int.reduceToNat, Int.reduceLT, Int.reduceLE, Int.cast_ofNat_Int, decide_true, decide_false, reduceIte, reduceCtorEq]; with_reducible rfl)); all_goals (intro hb; (try simp only [reduceCtorEq] at hb); (try simp only [hb])))
    | (apply tri_ci; (case hc => (simp only [go_sem, Nat.reduceBEq, Nat.reduceLT, Nat.reduceGT, Int.reduceGT, Int.reduceMul, Int.reduceAdd, Int.reduceSub, Nat.reduceAdd, Nat.reduceMul, Nat.reduceLeDiff, Nat.reduceEqDiff, Nat.reduceSub, Int.reduceNeg, Int.reduceToNat, Int.reduceLT, Int.reduceLE, Int.cast_ofNat_Int, decide_true, decide_false, reduceIte, reduceCtorEq]; with_reducible rfl)); all_goals (intro hb; (try simp only [reduceCtorEq] at hb); (try simp only [hb])))
    | (apply post_r; (case h1 => (simp only [go_sem, Nat.reduceBEq, Nat.reduceLT, Nat.reduceGT, Int.reduceGT, Int.reduceMul, Int.reduceAdd, Int.reduceSub, Nat.reduceAdd, Nat.reduceMul, Nat.reduceLeDiff, Nat.reduceEqDiff, Nat.reduceSub, Int.reduceNeg, Int.reduceToNat, Int.reduceLT, Int.reduceLE, Int.cast_ofNat_Int, decide_true, decide_false, reduceIte, reduceCtorEq]; with_reducible rfl)); (case he => simp))
    | (apply post_a; (case h1 => (simp only [go_sem, Nat.reduceBEq, Nat.reduceLT, Nat.reduceGT, Int.reduceGT, Int.reduceMul, Int.reduceAdd, Int.reduceSub, Nat.reduceAdd, Nat.reduceMul, Nat.reduceLeDiff, Nat.reduceEqDiff, Nat.reduceSub, Int.reduceNeg, Int.reduceToNat, Int.reduceLT, Int.reduceLE, Int.cast_ofNat_Int, decide_true, decide_false, reduceIte, reduceCtorEq]; with_reducible rfl)); (case he => simp))
    | (refine hK _ ?_; clear hK)
    | (clear hK; refine hK _ ?_; clear hK)
    | (clear hK; clear hK; refine hK _ ?_; clear hK)
    | (clear hK; clear hK; clear hK; refine hK _ ?_; clear hK)
    | (clear hK; clear hK; clear hK; clear hK; refine hK _ ?_; clear hK)
    | fail
  all_goals (repeat (clear hK))
  all_goals first | done | (simp_all; done) | grind

theorem c_of (t : Int) : FC Try.prog 98 [.int .i64 t] (.v (.int .i64 (ofF t))) := by
  refine fc_of_body (nt := 7) (rs := [.tmp 2]) (ts := [(0, _)]) Try.func98 rfl rfl rfl rfl (by decide) (Nat.le_of_ble_eq_true rfl) ?_
  repeat' first
    | refine thenQ_n ?_
    | refine thenQ_r ?_
    | refine thenQ_e ?_
    | refine blockQ_n ?_
    | refine blockQ_r ?_
    | refine blockQ_e ?_
    | refine blockQ_o ?_ (by rfl)
    | (refine tri_seq fun K hK => ?_)
    | refine tri_skip ?_
    | refine tri_ret ?_
    | refine tri_exit ?_
    | refine tri_block ?_
    | refine tri_region ?_
    | refine sq_nil ?_
    | (apply sq_go; (case hs => (simp only [go_sem, Nat.reduceBEq, Nat.reduceLT, Nat.reduceGT, Int.reduceGT, Int.reduceMul, Int.reduceAdd, Int.reduceSub, Nat.reduceAdd, Nat.reduceMul, Nat.reduceLeDiff, Nat.reduceEqDiff, Nat.reduceSub, Int.reduceNeg, Int.reduceToNat, Int.reduceLT, Int.reduceLE, Int.cast_ofNat_Int, decide_true, decide_false, reduceIte, reduceCtorEq]; with_reducible rfl)))
    | (apply sq_call (c_logicRight _); (case hs => (simp only [go_sem, Nat.reduceBEq, Nat.reduceLT, Nat.reduceGT, Int.reduceGT, Int.reduceMul, Int.reduceAdd, Int.reduceSub, Nat.reduceAdd, Nat.reduceMul, Nat.reduceLeDiff, Nat.reduceEqDiff, Nat.reduceSub, Int.reduceNeg, Int.reduceToNat, Int.reduceLT, Int.reduceLE, Int.cast_ofNat_Int, decide_true, decide_false, reduceIte, reduceCtorEq]; rfl)); (case hr => (simp only [go_sem, Nat.reduceBEq, Nat.reduceLT, Nat.reduceGT, Int.reduceGT, Int.reduceMul, Int.reduceAdd, Int.reduceSub, Nat.reduceAdd, Nat.reduceMul, Nat.reduceLeDiff, Nat.reduceEqDiff, Nat.reduceSub, Int.reduceNeg, Int.reduceToNat, Int.reduceLT, Int.reduceLE, Int.cast_ofNat_Int, decide_true, decide_false, reduceIte, reduceCtorEq]; with_reducible rfl)))
    | (apply sq_no; (case hs => (simp only [go_sem, Nat.reduceBEq, Nat.reduceLT, Nat.reduceGT, Int.reduceGT, Int.reduceMul, Int.reduceAdd, Int.reduceSub, Nat.reduceAdd, Nat.reduceMul, Nat.reduceLeDiff, Nat.reduceEqDiff, Nat.reduceSub, Int.reduceNeg, Int.reduceToNat, Int.reduceLT, Int.reduceLE, Int.cast_ofNat_Int, decide_true, decide_false, reduceIte, reduceCtorEq]; with_reducible rfl)))
    | (apply sq_if; (case hg => (simp only [go_sem, Nat.reduceBEq, Nat.reduceLT, Nat.reduceGT, Int.reduceGT, Int.reduceMul, Int.reduceAdd, Int.reduceSub, Nat.reduceAdd, Nat.reduceMul, Nat.reduceLeDiff, Nat.reduceEqDiff, Nat.reduceSub, Int.reduceNeg, Int.reduceToNat, Int.reduceLT, Int.reduceLE, Int.cast_ofNat_Int, decide_true, decide_false, reduceIte, reduceCtorEq]; with_reducible rfl)); all_goals (intro hb; (try simp only [reduceCtorEq] at hb); (try simp only [hb])))
    | (apply tri_ci; (case hc => (simp only [go_sem, Nat.reduceBEq, Nat.reduceLT, Nat.reduceGT, Int.reduceGT, Int.reduceMul, Int.reduceAdd, Int.reduceSub, Nat.reduceAdd, Nat.reduceMul, Nat.reduceLeDiff, Nat.reduceEqDiff, Nat.reduceSub, Int.reduceNeg, Int.reduceToNat, Int.reduceLT, Int.reduceLE, Int.cast_ofNat_Int, decide_true, decide_false, reduceIte, reduceCtorEq]; with_reducible rfl)); all_goals (intro hb; (try simp only [reduceCtorEq] at hb); (try simp only [hb])))
    | (apply post_r; (case h1 => (simp only [go_sem, Nat.reduceBEq, Nat.reduceLT, Nat.reduceGT, Int.reduceGT, Int.reduceMul, Int.reduceAdd, Int.reduceSub, Nat.reduceAdd, Nat.reduceMul, Nat.reduceLeDiff, Nat.reduceEqDiff, Nat.reduceSub, Int.reduceNeg, Int.reduceToNat, Int.reduceLT, Int.reduceLE, Int.cast_ofNat_Int, decide_true, decide_false, reduceIte, reduceCtorEq]; with_reducible rfl)); (case he => simp))
    | (apply post_a; (case h1 => (simp only [go_sem, Nat.reduceBEq, Nat.reduceLT, Nat.reduceGT, Int.reduceGT, Int.reduceMul, Int.reduceAdd, Int.reduceSub, Nat.reduceAdd, Nat.reduceMul, Nat.reduceLeDiff, Nat.reduceEqDiff, Nat.reduceSub, Int.reduceNeg, Int.reduceToNat, Int.reduceLT, Int.reduceLE, Int.cast_ofNat_Int, decide_true, decide_false, reduceIte, reduceCtorEq]; with_reducible rfl)); (case he => simp))
    | (refine hK _ ?_; clear hK)
    | (clear hK; refine hK _ ?_; clear hK)
    | (clear hK; clear hK; refine hK _ ?_; clear hK)
    | (clear hK; clear hK; clear hK; refine hK _ ?_; clear hK)
    | (clear hK; clear hK; clear hK; clear hK; refine hK _ ?_; clear hK)
    | fail
  all_goals (repeat (clear hK))
  all_goals first | done | (simp_all [ofF]; done) | grind [ofF]

theorem c_refCmp (op : Int) (a b : Val) : FC Try.prog 64 [.int .i64 op, a.e, b.e] (.v (.int .i64 (refCmpF op a b))) := by
  refine fc_of_body (nt := 62) (rs := [.tmp 6]) (ts := [(0, _), (1, _), (2, _)]) Try.func64 rfl rfl rfl rfl (by decide) (Nat.le_of_ble_eq_true rfl) ?_
  repeat' first
    | refine thenQ_n ?_
    | refine thenQ_r ?_
    | refine thenQ_e ?_
    | refine blockQ_n ?_
    | refine blockQ_r ?_
    | refine blockQ_e ?_
    | refine blockQ_o ?_ (by rfl)
    | (refine tri_seq fun K hK => ?_)
    | refine tri_skip ?_
    | refine tri_ret ?_
    | refine tri_exit ?_
    | refine tri_block ?_
    | refine tri_region ?_
    | refine sq_nil ?_
    | (apply sq_go; (case hs => (simp only [go_sem, Nat.reduceBEq, Nat.reduceLT, Nat.reduceGT, Int.reduceGT, Int.reduceMul, Int.reduceAdd, Int.reduceSub, Nat.reduceAdd, Nat.reduceMul, Nat.reduceLeDiff, Nat.reduceEqDiff, Nat.reduceSub, Int.reduceNeg, Int.reduceToNat, Int.reduceLT, Int.reduceLE, Int.cast_ofNat_Int, decide_true, decide_false, reduceIte, reduceCtorEq]; with_reducible rfl)))
    | (apply sq_call (c_truth _); (case hs => (simp only [go_sem, Nat.reduceBEq, Nat.reduceLT, Nat.reduceGT, Int.reduceGT, Int.reduceMul, Int.reduceAdd, Int.reduceSub, Nat.reduceAdd, Nat.reduceMul, Nat.reduceLeDiff, Nat.reduceEqDiff, Nat.reduceSub, Int.reduceNeg, Int.reduceToNat, Int.reduceLT, Int.reduceLE, Int.cast_ofNat_Int, decide_true, decide_false, reduceIte, reduceCtorEq]; rfl)); (case hr => (simp only [go_sem, Nat.reduceBEq, Nat.reduceLT, Nat.reduceGT, Int.reduceGT, Int.reduceMul, Int.reduceAdd, Int.reduceSub, Nat.reduceAdd, Nat.reduceMul, Nat.reduceLeDiff, Nat.reduceEqDiff, Nat.reduceSub, Int.reduceNeg, Int.reduceToNat, Int.reduceLT, Int.reduceLE, Int.cast_ofNat_Int, decide_true, decide_false, reduceIte, reduceCtorEq]; with_reducible rfl)))
    | (apply sq_no; (case hs => (simp only [go_sem, Nat.reduceBEq, Nat.reduceLT, Nat.reduceGT, Int.reduceGT, Int.reduceMul, Int.reduceAdd, Int.reduceSub, Nat.reduceAdd, Nat.reduceMul, Nat.reduceLeDiff, Nat.reduceEqDiff, Nat.reduceSub, Int.reduceNeg, Int.reduceToNat, Int.reduceLT, Int.reduceLE, Int.cast_ofNat_Int, decide_true, decide_false, reduceIte, reduceCtorEq]; with_reducible rfl)))
    | (apply sq_if; (case hg => (simp only [go_sem, Nat.reduceBEq, Nat.reduceLT, Nat.reduceGT, Int.reduceGT, Int.reduceMul, Int.reduceAdd, Int.reduceSub, Nat.reduceAdd, Nat.reduceMul, Nat.reduceLeDiff, Nat.reduceEqDiff, Nat.reduceSub, Int.reduceNeg, Int.reduceToNat, Int.reduceLT, Int.reduceLE, Int.cast_ofNat_Int, decide_true, decide_false, reduceIte, reduceCtorEq]; with_reducible rfl)); all_goals (intro hb; (try simp only [reduceCtorEq] at hb); (try simp only [hb])))
    | (apply tri_ci; (case hc => (simp only [go_sem, Nat.reduceBEq, Nat.reduceLT, Nat.reduceGT, Int.reduceGT, Int.reduceMul, Int.reduceAdd, Int.reduceSub, Nat.reduceAdd, Nat.reduceMul, Nat.reduceLeDiff, Nat.reduceEqDiff, Nat.reduceSub, Int.reduceNeg, Int.reduceToNat, Int.reduceLT, Int.reduceLE, Int.cast_ofNat_Int, decide_true, decide_false, reduceIte, reduceCtorEq]; with_reducible rfl)); all_goals (intro hb; (try simp only [reduceCtorEq] at hb); (try simp only [hb])))
    | (apply post_r; (case h1 => (simp only [go_sem, Nat.reduceBEq, Nat.reduceLT, Nat.reduceGT, Int.reduceGT, Int.reduceMul, Int.reduceAdd, Int.reduceSub, Nat.reduceAdd, Nat.reduceMul, Nat.reduceLeDiff, Nat.reduceEqDiff, Nat.reduceSub, Int.reduceNeg, Int.reduceToNat, Int.reduceLT, Int.reduceLE, Int.cast_ofNat_Int, decide_true, decide_false, reduceIte, reduceCtorEq]; with_reducible rfl)); (case he => simp))
    | (apply post_a; (case h1 => (simp only [go_sem, Nat.reduceBEq, Nat.reduceLT, Nat.reduceGT, Int.reduceGT, Int.reduceMul, Int.reduceAdd, Int.reduceSub, Nat.reduceAdd, Nat.reduceMul, Nat.reduceLeDiff, Nat.reduceEqDiff, Nat.reduceSub, Int.reduceNeg, Int.reduceToNat, Int.reduceLT, Int.reduceLE, Int.cast_ofNat_Int, decide_true, decide_false, reduceIte, reduceCtorEq]; with_reducible rfl)); (case he => simp))
    | (refine hK _ ?_; clear hK)
    | (clear hK; refine hK _ ?_; clear hK)
    | (clear hK; clear hK; refine hK _ ?_; clear hK)
    | (clear hK; clear hK; clear hK; refine hK _ ?_; clear hK)
    | (clear hK; clear hK; clear hK; clear hK; refine hK _ ?_; clear hK)
    | fail
  all_goals (repeat (clear hK))
  all_goals first | done | (simp_all [refCmpF]; done) | grind [refCmpF]

theorem c_first11 (x t : Int) : FC Try.prog 107 [.int .i64 x, .ro [.int .i64 t]] (.v (.bool (decide (ofF x = t)))) := by
  refine fc_of_body (nt := 8) (rs := [.tmp 3]) (ts := [(0, _), (1, _)]) Try.func107 rfl rfl rfl rfl (by decide) (Nat.le_of_ble_eq_true rfl) ?_
  repeat' first
    | refine thenQ_n ?_
    | refine thenQ_r ?_
    | refine thenQ_e ?_
    | refine blockQ_n ?_
    | refine blockQ_r ?_
    | refine blockQ_e ?_
    | refine blockQ_o ?_ (by rfl)
    | (refine tri_seq fun K hK => ?_)
    | refine tri_skip ?_
    | refine tri_ret ?_
    | refine tri_exit ?_
    | refine tri_block ?_
    | refine tri_region ?_
    | refine sq_nil ?_
    | (refine dr (id := 1) [0, 1, 2, 3] [4] ?_)
    | (apply sq_go; (case hs => (simp only [go_sem, Nat.reduceBEq, Nat.reduceLT, Nat.reduceGT, Int.reduceGT, Int.reduceMul, Int.reduceAdd, Int.reduceSub, Nat.reduceAdd, Nat.reduceMul, Nat.reduceLeDiff, Nat.reduceEqDiff, Nat.reduceSub, Int.reduceNeg, Int.reduceToNat, Int.reduceLT, Int.reduceLE, Int.cast_ofNat_Int, decide_true, decide_false, reduceIte, reduceCtorEq]; with_reducible rfl)))
    | (apply sq_call (c_of _); (case hs => (simp only [go_sem, Nat.reduceBEq, Nat.reduceLT, Nat.reduceGT, Int.reduceGT, Int.reduceMul, Int.reduceAdd, Int.reduceSub, Nat.reduceAdd, Nat.reduceMul, Nat.reduceLeDiff, Nat.reduceEqDiff, Nat.reduceSub, Int.reduceNeg, Int.reduceToNat, Int.reduceLT, Int.reduceLE, Int.cast_ofNat_Int, decide_true, decide_false, reduceIte, reduceCtorEq]; rfl)); (case hr => (simp only [go_sem, Nat.reduceBEq, Nat.reduceLT, Nat.reduceGT, Int.reduceGT, Int.reduceMul, Int.reduceAdd, Int.reduceSub, Nat.reduceAdd, Nat.reduceMul, Nat.reduceLeDiff, Nat.reduceEqDiff, Nat.reduceSub, Int.reduceNeg, Int.reduceToNat, Int.reduceLT, Int.reduceLE, Int.cast_ofNat_Int, decide_true, decide_false, reduceIte, reduceCtorEq]; with_reducible rfl)))
    | (apply dq_go; (case ho => rfl); (case hs => (simp only [go_sem, Nat.reduceBEq, Nat.reduceLT, Nat.reduceGT, Int.reduceGT, Int.reduceMul, Int.reduceAdd, Int.reduceSub, Nat.reduceAdd, Nat.reduceMul, Nat.reduceLeDiff, Nat.reduceEqDiff, Nat.reduceSub, Int.reduceNeg, Int.reduceToNat, Int.reduceLT, Int.reduceLE, Int.cast_ofNat_Int, decide_true, decide_false, reduceIte, reduceCtorEq]; with_reducible rfl)))
    | (apply dq_call (c_of _); (case ho => rfl); (case hs => (simp only [go_sem, Nat.reduceBEq, Nat.reduceLT, Nat.reduceGT, Int.reduceGT, Int.reduceMul, Int.reduceAdd, Int.reduceSub, Nat.reduceAdd, Nat.reduceMul, Nat.reduceLeDiff, Nat.reduceEqDiff, Nat.reduceSub, Int.reduceNeg, Int.reduceToNat, Int.reduceLT, Int.reduceLE, Int.cast_ofNat_Int, decide_true, decide_false, reduceIte, reduceCtorEq]; rfl)); (case hr => (simp only [go_sem, Nat.reduceBEq, Nat.reduceLT, Nat.reduceGT, Int.reduceGT, Int.reduceMul, Int.reduceAdd, Int.reduceSub, Nat.reduceAdd, Nat.reduceMul, Nat.reduceLeDiff, Nat.reduceEqDiff, Nat.reduceSub, Int.reduceNeg, Int.reduceToNat, Int.reduceLT, Int.reduceLE, Int.cast_ofNat_Int, decide_true, decide_false, reduceIte, reduceCtorEq]; with_reducible rfl)))
    | (apply dq_no; (case ho => rfl); (case hs => (simp only [go_sem, Nat.reduceBEq, Nat.reduceLT, Nat.reduceGT, Int.reduceGT, Int.reduceMul, Int.reduceAdd, Int.reduceSub, Nat.reduceAdd, Nat.reduceMul, Nat.reduceLeDiff, Nat.reduceEqDiff, Nat.reduceSub, Int.reduceNeg, Int.reduceToNat, Int.reduceLT, Int.reduceLE, Int.cast_ofNat_Int, decide_true, decide_false, reduceIte, reduceCtorEq]; with_reducible rfl)))
    | (apply dq_if; (case ho => rfl); (case hg => (simp only [go_sem, Nat.reduceBEq, Nat.reduceLT, Nat.reduceGT, Int.reduceGT, Int.reduceMul, Int.reduceAdd, Int.reduceSub, Nat.reduceAdd, Nat.reduceMul, Nat.reduceLeDiff, Nat.reduceEqDiff, Nat.reduceSub, Int.reduceNeg, Int.reduceToNat, Int.reduceLT, Int.reduceLE, Int.cast_ofNat_Int, decide_true, decide_false, reduceIte, reduceCtorEq]; with_reducible rfl)); all_goals (intro hb; (try simp only [reduceCtorEq] at hb); (try simp only [hb])))
    | (refine dq_nil ?_; apply dq_end; (case hs => (simp only [go_sem, Nat.reduceBEq, Nat.reduceLT, Nat.reduceGT, Int.reduceGT, Int.reduceMul, Int.reduceAdd, Int.reduceSub, Nat.reduceAdd, Nat.reduceMul, Nat.reduceLeDiff, Nat.reduceEqDiff, Nat.reduceSub, Int.reduceNeg, Int.reduceToNat, Int.reduceLT, Int.reduceLE, Int.cast_ofNat_Int, decide_true, decide_false, reduceIte, reduceCtorEq]; with_reducible rfl)); (case ht => rfl); (case hd => rfl))
    | (apply sq_no; (case hs => (simp only [go_sem, Nat.reduceBEq, Nat.reduceLT, Nat.reduceGT, Int.reduceGT, Int.reduceMul, Int.reduceAdd, Int.reduceSub, Nat.reduceAdd, Nat.reduceMul, Nat.reduceLeDiff, Nat.reduceEqDiff, Nat.reduceSub, Int.reduceNeg, Int.reduceToNat, Int.reduceLT, Int.reduceLE, Int.cast_ofNat_Int, decide_true, decide_false, reduceIte, reduceCtorEq]; with_reducible rfl)))
    | (apply sq_if; (case hg => (simp only [go_sem, Nat.reduceBEq, Nat.reduceLT, Nat.reduceGT, Int.reduceGT, Int.reduceMul, Int.reduceAdd, Int.reduceSub, Nat.reduceAdd, Nat.reduceMul, Nat.reduceLeDiff, Nat.reduceEqDiff, Nat.reduceSub, Int.reduceNeg, Int.reduceToNat, Int.reduceLT, Int.reduceLE, Int.cast_ofNat_Int, decide_true, decide_false, reduceIte, reduceCtorEq]; with_reducible rfl)); all_goals (intro hb; (try simp only [reduceCtorEq] at hb); (try simp only [hb])))
    | (apply tri_ci; (case hc => (simp only [go_sem, Nat.reduceBEq, Nat.reduceLT, Nat.reduceGT, Int.reduceGT, Int.reduceMul, Int.reduceAdd, Int.reduceSub, Nat.reduceAdd, Nat.reduceMul, Nat.reduceLeDiff, Nat.reduceEqDiff, Nat.reduceSub, Int.reduceNeg, Int.reduceToNat, Int.reduceLT, Int.reduceLE, Int.cast_ofNat_Int, decide_true, decide_false, reduceIte, reduceCtorEq]; with_reducible rfl)); all_goals (intro hb; (try simp only [reduceCtorEq] at hb); (try simp only [hb])))
    | (apply post_r; (case h1 => (simp only [go_sem, Nat.reduceBEq, Nat.reduceLT, Nat.reduceGT, Int.reduceGT, Int.reduceMul, Int.reduceAdd, Int.reduceSub, Nat.reduceAdd, Nat.reduceMul, Nat.reduceLeDiff, Nat.reduceEqDiff, Nat.reduceSub, Int.reduceNeg, Int.reduceToNat, Int.reduceLT, Int.reduceLE, Int.cast_ofNat_Int, decide_true, decide_false, reduceIte, reduceCtorEq]; with_reducible rfl)); (case he => simp))
    | (apply post_a; (case h1 => (simp only [go_sem, Nat.reduceBEq, Nat.reduceLT, Nat.reduceGT, Int.reduceGT, Int.reduceMul, Int.reduceAdd, Int.reduceSub, Nat.reduceAdd, Nat.reduceMul, Nat.reduceLeDiff, Nat.reduceEqDiff, Nat.reduceSub, Int.reduceNeg, Int.reduceToNat, Int.reduceLT, Int.reduceLE, Int.cast_ofNat_Int, decide_true, decide_false, reduceIte, reduceCtorEq]; with_reducible rfl)); (case he => simp))
    | (refine hK _ ?_; clear hK)
    | (clear hK; refine hK _ ?_; clear hK)
    | (clear hK; clear hK; refine hK _ ?_; clear hK)
    | (clear hK; clear hK; clear hK; refine hK _ ?_; clear hK)
    | (clear hK; clear hK; clear hK; clear hK; refine hK _ ?_; clear hK)
    | fail
  all_goals (repeat (clear hK))
  all_goals first | done | (simp_all; done) | grind

theorem c_logicOf (b : Bool) : FC Try.prog 70 [.bool b] (.v (.int .i64 (truthF b))) := by
  refine fc_of_body (nt := 4) (rs := [.tmp 2]) (ts := [(0, _)]) Try.func70 rfl rfl rfl rfl (by decide) (Nat.le_of_ble_eq_true rfl) ?_
  repeat' first
    | refine thenQ_n ?_
    | refine thenQ_r ?_
    | refine thenQ_e ?_
    | refine blockQ_n ?_
    | refine blockQ_r ?_
    | refine blockQ_e ?_
    | refine blockQ_o ?_ (by rfl)
    | (refine tri_seq fun K hK => ?_)
    | refine tri_skip ?_
    | refine tri_ret ?_
    | refine tri_exit ?_
    | refine tri_block ?_
    | refine tri_region ?_
    | refine sq_nil ?_
    | (apply sq_go; (case hs => (simp only [go_sem, Nat.reduceBEq, Nat.reduceLT, Nat.reduceGT, Int.reduceGT, Int.reduceMul, Int.reduceAdd, Int.reduceSub, Nat.reduceAdd, Nat.reduceMul, Nat.reduceLeDiff, Nat.reduceEqDiff, Nat.reduceSub, Int.reduceNeg, Int.reduceToNat, Int.reduceLT, Int.reduceLE, Int.cast_ofNat_Int, decide_true, decide_false, reduceIte, reduceCtorEq]; with_reducible rfl)))
    | (apply sq_no; (case hs => (simp only [go_sem, Nat.reduceBEq, Nat.reduceLT, Nat.reduceGT, Int.reduceGT, Int.reduceMul, Int.reduceAdd, Int.reduceSub, Nat.reduceAdd, Nat.reduceMul, Nat.reduceLeDiff, Nat.reduceEqDiff, Nat.reduceSub, Int.reduceNeg, Int.reduceToNat, Int.reduceLT, Int.reduceLE, Int.cast_ofNat_Int, decide_true, decide_false, reduceIte, reduceCtorEq]; with_reducible rfl)))
    | (apply sq_if; (case hg => (simp only [go_sem, Nat.reduceBEq, Nat.reduceLT, Nat.reduceGT, Int.reduceGT, Int.reduceMul, Int.reduceAdd, Int.reduceSub, Nat.reduceAdd, Nat.reduceMul, Nat.reduceLeDiff, Nat.reduceEqDiff, Nat.reduceSub, Int.reduceNeg, Int.reduceToNat, Int.reduceLT, Int.reduceLE, Int.cast_ofNat_Int, decide_true, decide_false, reduceIte, reduceCtorEq]; with_reducible rfl)); all_goals (intro hb; (try simp only [reduceCtorEq] at hb); (try simp only [hb])))
    | (apply tri_ci; (case hc => (simp only [go_sem, Nat.reduceBEq, Nat.reduceLT, Nat.reduceGT, Int.reduceGT, Int.reduceMul, Int.reduceAdd, Int.reduceSub, Nat.reduceAdd, Nat.reduceMul, Nat.reduceLeDiff, Nat.reduceEqDiff, Nat.reduceSub, Int.reduceNeg, Int.reduceToNat, Int.reduceLT, Int.reduceLE, Int.cast_ofNat_Int, decide_true, decide_false, reduceIte, reduceCtorEq]; with_reducible rfl)); all_goals (intro hb; (try simp only [reduceCtorEq] at hb); (try simp only [hb])))
    | (apply post_r; (case h1 => (simp only [go_sem, Nat.reduceBEq, Nat.reduceLT, Nat.reduceGT, Int.reduceGT, Int.reduceMul, Int.reduceAdd, Int.reduceSub, Nat.reduceAdd, Nat.reduceMul, Nat.reduceLeDiff, Nat.reduceEqDiff, Nat.reduceSub, Int.reduceNeg, Int.reduceToNat, Int.reduceLT, Int.reduceLE, Int.cast_ofNat_Int, decide_true, decide_false, reduceIte, reduceCtorEq]; with_reducible rfl)); (case he => simp))
    | (apply post_a; (case h1 => (simp only [go_sem, Nat.reduceBEq, Nat.reduceLT, Nat.reduceGT, Int.reduceGT, Int.reduceMul, Int.reduceAdd, Int.reduceSub, Nat.reduceAdd, Nat.reduceMul, Nat.reduceLeDiff, Nat.reduceEqDiff, Nat.reduceSub, Int.reduceNeg, Int.reduceToNat, Int.reduceLT, Int.reduceLE, Int.cast_ofNat_Int, decide_true, decide_false, reduceIte, reduceCtorEq]; with_reducible rfl)); (case he => simp))
    | (refine hK _ ?_; clear hK)
    | (clear hK; refine hK _ ?_; clear hK)
    | (clear hK; clear hK; refine hK _ ?_; clear hK)
    | (clear hK; clear hK; clear hK; refine hK _ ?_; clear hK)
    | (clear hK; clear hK; clear hK; clear hK; refine hK _ ?_; clear hK)
    | fail
  all_goals (repeat (clear hK))
  all_goals first | done | (simp_all [truthF]; done) | grind [truthF]

theorem wi {n : Int} (h : -9223372036854775808 ≤ n ∧ n ≤ 9223372036854775807) : IntKind.i64.wrap n = n := IntWalk.i64_in _ (by omega)
theorem not_of (t : Int) : IntKind.i64.wrap (2 - ofF t) = 2 - ofF t := wi (by unfold ofF; split <;> omega)
theorem side_cases (a b : Int) : sideF a b = 0 ∨ sideF a b = 1 ∨ sideF a b = 2 := by unfold sideF; split <;> (try split) <;> simp

theorem c_logicNot (t : Int) : FC Try.prog 71 [.int .i64 t] (.v (.int .i64 (2 - ofF t))) := by
  refine fc_of_body (nt := 6) (rs := [.tmp 2]) (ts := [(0, _)]) Try.func71 rfl rfl rfl rfl (by decide) (Nat.le_of_ble_eq_true rfl) ?_
  repeat' first
    | refine thenQ_n ?_
    | refine thenQ_r ?_
    | refine thenQ_e ?_
    | refine blockQ_n ?_
    | refine blockQ_r ?_
    | refine blockQ_e ?_
    | refine blockQ_o ?_ (by rfl)
    | (refine tri_seq fun K hK => ?_)
    | refine tri_skip ?_
    | refine tri_ret ?_
    | refine tri_exit ?_
    | refine tri_block ?_
    | refine tri_region ?_
    | refine sq_nil ?_
    | (apply sq_go; (case hs => (simp only [go_sem, Nat.reduceBEq, Nat.reduceLT, Nat.reduceGT, Int.reduceGT, Int.reduceMul, Int.reduceAdd, Int.reduceSub, Nat.reduceAdd, Nat.reduceMul, Nat.reduceLeDiff, Nat.reduceEqDiff, Nat.reduceSub, Int.reduceNeg, Int.reduceToNat, Int.reduceLT, Int.reduceLE, Int.cast_ofNat_Int, decide_true, decide_false, reduceIte, reduceCtorEq, not_of]; with_reducible rfl)))
    | (apply sq_call (c_of _); (case hs => (simp only [go_sem, Nat.reduceBEq, Nat.reduceLT, Nat.reduceGT, Int.reduceGT, Int.reduceMul, Int.reduceAdd, Int.reduceSub, Nat.reduceAdd, Nat.reduceMul, Nat.reduceLeDiff, Nat.reduceEqDiff, Nat.reduceSub, Int.reduceNeg, Int.reduceToNat, Int.reduceLT, Int.reduceLE, Int.cast_ofNat_Int, decide_true, decide_false, reduceIte, reduceCtorEq, not_of]; rfl)); (case hr => (simp only [go_sem, Nat.reduceBEq, Nat.reduceLT, Nat.reduceGT, Int.reduceGT, Int.reduceMul, Int.reduceAdd, Int.reduceSub, Nat.reduceAdd, Nat.reduceMul, Nat.reduceLeDiff, Nat.reduceEqDiff, Nat.reduceSub, Int.reduceNeg, Int.reduceToNat, Int.reduceLT, Int.reduceLE, Int.cast_ofNat_Int, decide_true, decide_false, reduceIte, reduceCtorEq, not_of]; with_reducible rfl)))
    | (apply sq_no; (case hs => (simp only [go_sem, Nat.reduceBEq, Nat.reduceLT, Nat.reduceGT, Int.reduceGT, Int.reduceMul, Int.reduceAdd, Int.reduceSub, Nat.reduceAdd, Nat.reduceMul, Nat.reduceLeDiff, Nat.reduceEqDiff, Nat.reduceSub, Int.reduceNeg, Int.reduceToNat, Int.reduceLT, Int.reduceLE, Int.cast_ofNat_Int, decide_true, decide_false, reduceIte, reduceCtorEq, not_of]; with_reducible rfl)))
    | (apply sq_if; (case hg => (simp only [go_sem, Nat.reduceBEq, Nat.reduceLT, Nat.reduceGT, Int.reduceGT, Int.reduceMul, Int.reduceAdd, Int.reduceSub, Nat.reduceAdd, Nat.reduceMul, Nat.reduceLeDiff, Nat.reduceEqDiff, Nat.reduceSub, Int.reduceNeg, Int.reduceToNat, Int.reduceLT, Int.reduceLE, Int.cast_ofNat_Int, decide_true, decide_false, reduceIte, reduceCtorEq, not_of]; with_reducible rfl)); all_goals (intro hb; (try simp only [reduceCtorEq] at hb); (try simp only [hb])))
    | (apply tri_ci; (case hc => (simp only [go_sem, Nat.reduceBEq, Nat.reduceLT, Nat.reduceGT, Int.reduceGT, Int.reduceMul, Int.reduceAdd, Int.reduceSub, Nat.reduceAdd, Nat.reduceMul, Nat.reduceLeDiff, Nat.reduceEqDiff, Nat.reduceSub, Int.reduceNeg, Int.reduceToNat, Int.reduceLT, Int.reduceLE, Int.cast_ofNat_Int, decide_true, decide_false, reduceIte, reduceCtorEq, not_of]; with_reducible rfl)); all_goals (intro hb; (try simp only [reduceCtorEq] at hb); (try simp only [hb])))
    | (apply post_r; (case h1 => (simp only [go_sem, Nat.reduceBEq, Nat.reduceLT, Nat.reduceGT, Int.reduceGT, Int.reduceMul, Int.reduceAdd, Int.reduceSub, Nat.reduceAdd, Nat.reduceMul, Nat.reduceLeDiff, Nat.reduceEqDiff, Nat.reduceSub, Int.reduceNeg, Int.reduceToNat, Int.reduceLT, Int.reduceLE, Int.cast_ofNat_Int, decide_true, decide_false, reduceIte, reduceCtorEq, not_of]; with_reducible rfl)); (case he => simp))
    | (apply post_a; (case h1 => (simp only [go_sem, Nat.reduceBEq, Nat.reduceLT, Nat.reduceGT, Int.reduceGT, Int.reduceMul, Int.reduceAdd, Int.reduceSub, Nat.reduceAdd, Nat.reduceMul, Nat.reduceLeDiff, Nat.reduceEqDiff, Nat.reduceSub, Int.reduceNeg, Int.reduceToNat, Int.reduceLT, Int.reduceLE, Int.cast_ofNat_Int, decide_true, decide_false, reduceIte, reduceCtorEq, not_of]; with_reducible rfl)); (case he => simp))
    | (refine hK _ ?_; clear hK)
    | (clear hK; refine hK _ ?_; clear hK)
    | (clear hK; clear hK; refine hK _ ?_; clear hK)
    | (clear hK; clear hK; clear hK; refine hK _ ?_; clear hK)
    | (clear hK; clear hK; clear hK; clear hK; refine hK _ ?_; clear hK)
    | fail
  all_goals (repeat (clear hK))
  all_goals first | done | (simp_all [ofF]; done) | grind [ofF]

theorem c_three (t : Int) : FC Try.prog 84 [.int .i64 t] (.v (.int .i64 (if t = 0 ∨ t = 2 then t else 1))) := by
  refine fc_of_body (nt := 10) (rs := [.tmp 2]) (ts := [(0, _)]) Try.func84 rfl rfl rfl rfl (by decide) (Nat.le_of_ble_eq_true rfl) ?_
  repeat' first
    | refine thenQ_n ?_
    | refine thenQ_r ?_
    | refine thenQ_e ?_
    | refine blockQ_n ?_
    | refine blockQ_r ?_
    | refine blockQ_e ?_
    | refine blockQ_o ?_ (by rfl)
    | (refine tri_seq fun K hK => ?_)
    | refine tri_skip ?_
    | refine tri_ret ?_
    | refine tri_exit ?_
    | refine tri_block ?_
    | refine tri_region ?_
    | refine sq_nil ?_
    | (apply sq_go; (case hs => (simp only [go_sem, Nat.reduceBEq, Nat.reduceLT, Nat.reduceGT, Int.reduceGT, Int.reduceMul, Int.reduceAdd, Int.reduceSub, Nat.reduceAdd, Nat.reduceMul, Nat.reduceLeDiff, Nat.reduceEqDiff, Nat.reduceSub, Int.reduceNeg, Int.reduceToNat, Int.reduceLT, Int.reduceLE, Int.cast_ofNat_Int, decide_true, decide_false, reduceIte, reduceCtorEq]; with_reducible rfl)))
    | (apply sq_no; (case hs => (simp only [go_sem, Nat.reduceBEq, Nat.reduceLT, Nat.reduceGT, Int.reduceGT, Int.reduceMul, Int.reduceAdd, Int.reduceSub, Nat.reduceAdd, Nat.reduceMul, Nat.reduceLeDiff, Nat.reduceEqDiff, Nat.reduceSub, Int.reduceNeg, Int.reduceToNat, Int.reduceLT, Int.reduceLE, Int.cast_ofNat_Int, decide_true, decide_false, reduceIte, reduceCtorEq]; with_reducible rfl)))
    | (apply sq_if; (case hg => (simp only [go_sem, Nat.reduceBEq, Nat.reduceLT, Nat.reduceGT, Int.reduceGT, Int.reduceMul, Int.reduceAdd, Int.reduceSub, Nat.reduceAdd, Nat.reduceMul, Nat.reduceLeDiff, Nat.reduceEqDiff, Nat.reduceSub, Int.reduceNeg, Int.reduceToNat, Int.reduceLT, Int.reduceLE, Int.cast_ofNat_Int, decide_true, decide_false, reduceIte, reduceCtorEq]; with_reducible rfl)); all_goals (intro hb; (try simp only [reduceCtorEq] at hb); (try simp only [hb])))
    | (apply tri_ci; (case hc => (simp only [go_sem, Nat.reduceBEq, Nat.reduceLT, Nat.reduceGT, Int.reduceGT, Int.reduceMul, Int.reduceAdd, Int.reduceSub, Nat.reduceAdd, Nat.reduceMul, Nat.reduceLeDiff, Nat.reduceEqDiff, Nat.reduceSub, Int.reduceNeg, Int.reduceToNat, Int.reduceLT, Int.reduceLE, Int.cast_ofNat_Int, decide_true, decide_false, reduceIte, reduceCtorEq]; with_reducible rfl)); all_goals (intro hb; (try simp only [reduceCtorEq] at hb); (try simp only [hb])))
    | (apply post_r; (case h1 => (simp only [go_sem, Nat.reduceBEq, Nat.reduceLT, Nat.reduceGT, Int.reduceGT, Int.reduceMul, Int.reduceAdd, Int.reduceSub, Nat.reduceAdd, Nat.reduceMul, Nat.reduceLeDiff, Nat.reduceEqDiff, Nat.reduceSub, Int.reduceNeg, Int.reduceToNat, Int.reduceLT, Int.reduceLE, Int.cast_ofNat_Int, decide_true, decide_false, reduceIte, reduceCtorEq]; with_reducible rfl)); (case he => simp))
    | (apply post_a; (case h1 => (simp only [go_sem, Nat.reduceBEq, Nat.reduceLT, Nat.reduceGT, Int.reduceGT, Int.reduceMul, Int.reduceAdd, Int.reduceSub, Nat.reduceAdd, Nat.reduceMul, Nat.reduceLeDiff, Nat.reduceEqDiff, Nat.reduceSub, Int.reduceNeg, Int.reduceToNat, Int.reduceLT, Int.reduceLE, Int.cast_ofNat_Int, decide_true, decide_false, reduceIte, reduceCtorEq]; with_reducible rfl)); (case he => simp))
    | (refine hK _ ?_; clear hK)
    | (clear hK; refine hK _ ?_; clear hK)
    | (clear hK; clear hK; refine hK _ ?_; clear hK)
    | (clear hK; clear hK; clear hK; refine hK _ ?_; clear hK)
    | (clear hK; clear hK; clear hK; clear hK; refine hK _ ?_; clear hK)
    | fail
  all_goals (repeat (clear hK))
  all_goals first | done | (simp_all; done) | grind

end Go.Proofs.Ytigkkfhpnfjmhaa.AL
