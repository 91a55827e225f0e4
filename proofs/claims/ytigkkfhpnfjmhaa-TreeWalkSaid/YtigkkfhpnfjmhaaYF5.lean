/- Contracts: terms. -/
import Derived.Test.YtigkkfhpnfjmhaaYF4
namespace Go.Proofs.Ytigkkfhpnfjmhaa.AL
open Go
set_option linter.unusedVariables false
set_option linter.unusedSimpArgs false
set_option maxRecDepth 4000
structure Trm where
  kind : Int
  table : Int
  col : Int
  v : Val
def Trm.e (t : Trm) : AV := .agg [.int .i64 t.kind, .int .i64 t.table, .int .i64 t.col, .bool t.v.null, .int .i64 t.v.n]
attribute [go_sem] Trm.e
abbrev rowE (r : List Val) : AV := .sl 2 (r.map Val.e)
abbrev rowsE (l : List (List Val)) : AV := .sl 1 (l.map rowE)
def rowF (rows : List (List Val)) (i : Int) : List Val := if 0 ≤ i then (rows[i.toNat]?).getD [] else []
def colF (r : List Val) (c : Int) : Val := if 0 ≤ c then (r[c.toNat]?).getD ⟨true, 0⟩ else ⟨true, 0⟩
def trmOfF (t : Trm) (rows : List (List Val)) : Val := if t.kind = 1 then colF (rowF rows t.table) t.col else t.v
theorem eq4 (a b : Bool) : aeq Try.prog 9 4 (.bool a) (.bool b) = some (decide (a = b)) := by kernel_rfl
theorem eg44 : Try.prog.eqGuardType Try.prog.depth 44 = false := by kernel_rfl
theorem eq44 (a1 a2 a3 a5 b1 b2 b3 b5 : Int) (a4 b4 : Bool) : aeq Try.prog 9 44 (.agg [.int .i64 a1, .int .i64 a2, .int .i64 a3, .bool a4, .int .i64 a5]) (.agg [.int .i64 b1, .int .i64 b2, .int .i64 b3, .bool b4, .int .i64 b5]) =
  some (decide (a1 = b1) && (decide (a2 = b2) && (decide (a3 = b3) && ((decide (a4 = b4) && (decide (a5 = b5) && true)) && true)))) := by kernel_rfl
attribute [go_sem] eq4 eg44 eq44
def trmEqF (a b : Trm) : Bool := decide (a.kind = b.kind) && (decide (a.table = b.table) && (decide (a.col = b.col) && ((decide (a.v.null = b.v.null) && (decide (a.v.n = b.v.n) && true)) && true)))

set_option maxHeartbeats 4000000 in
theorem c_trmSame (a b : Trm) : FC Try.prog 76 [a.e, b.e] (.v (.bool (trmEqF a b))) := by
  refine fc_of_body (nt := 8) (rs := [.tmp 4]) (ts := [(0, _), (1, _)]) Try.func76 rfl rfl rfl rfl (by decide) (Nat.le_of_ble_eq_true rfl) ?_
  repeat' first
    | refine thenQ_n ?_
    | refine thenQ_r ?_
    | refine thenQ_e ?_
    | refine blockQ_n ?_
    | refine blockQ_r ?_
    | refine blockQ_e ?_
    | refine blockQ_o ?_ (by rfl)
    | (refine tri_seq fun K hK => ?_)
    | refine tri_skip ?_
    | refine tri_ret ?_
    | refine tri_exit ?_
    | refine tri_block ?_
    | refine tri_region ?_
    | refine sq_nil ?_
    | (apply sq_go; (case hs => (simp only [go_sem, Nat.reduceBEq, Nat.reduceBNe, Nat.reduceLT, Nat.reduceGT, Int.reduceGT, Int.reduceMul, Int.reduceAdd, Int.reduceSub, Nat.reduceAdd, Nat.reduceMul, Nat.reduceLeDiff, Nat.reduceEqDiff, Nat.reduceSub, Int.reduceNeg, Int.reduceToNat, Int.reduceLT, Int.reduceLE, Int.cast_ofNat_Int, decide_true, decide_false, Bool.and_self, reduceIte, reduceCtorEq]; with_reducible rfl)))
    | (apply sq_no; (case hs => (simp only [go_sem, Nat.reduceBEq, Nat.reduceBNe, Nat.reduceLT, Nat.reduceGT, Int.reduceGT, Int.reduceMul, Int.reduceAdd, Int.reduceSub, Nat.reduceAdd, Nat.reduceMul, Nat.reduceLeDiff, Nat.reduceEqDiff, Nat.reduceSub, Int.reduceNeg, Int.reduceToNat, Int.reduceLT, Int.reduceLE, Int.cast_ofNat_Int, decide_true, decide_false, Bool.and_self, reduceIte, reduceCtorEq]; with_reducible rfl)))
    | (apply sq_if; (case hg => (simp only [go_sem, Nat.reduceBEq, Nat.reduceBNe, Nat.reduceLT, Nat.reduceGT, Int.reduceGT, Int.reduceMul, Int.reduceAdd, Int.reduceSub, Nat.reduceAdd, Nat.reduceMul, Nat.reduceLeDiff, Nat.reduceEqDiff, Nat.reduceSub, Int.reduceNeg, Int.reduceToNat, Int.reduceLT, Int.reduceLE, Int.cast_ofNat_Int, decide_true, decide_false, Bool.and_self, reduceIte, reduceCtorEq]; with_reducible rfl)); all_goals (intro hb; (try simp only [reduceCtorEq] at hb); (try simp only [hb])))
    | (apply tri_ci; (case hc => (simp only [go_sem, Nat.reduceBEq, Nat.reduceBNe, Nat.reduceLT, Nat.reduceGT, Int.reduceGT, Int.reduceMul, Int.reduceAdd, Int.reduceSub, Nat.reduceAdd, Nat.reduceMul, Nat.reduceLeDiff, Nat.reduceEqDiff, Nat.reduceSub, Int.reduceNeg, Int.reduceToNat, Int.reduceLT, Int.reduceLE, Int.cast_ofNat_Int, decide_true, decide_false, Bool.and_self, reduceIte, reduceCtorEq]; with_reducible rfl)); all_goals (intro hb; (try simp only [reduceCtorEq] at hb); (try simp only [hb])))
    | (apply post_r; (case h1 => (simp only [go_sem, Nat.reduceBEq, Nat.reduceBNe, Nat.reduceLT, Nat.reduceGT, Int.reduceGT, Int.reduceMul, Int.reduceAdd, Int.reduceSub, Nat.reduceAdd, Nat.reduceMul, Nat.reduceLeDiff, Nat.reduceEqDiff, Nat.reduceSub, Int.reduceNeg, Int.reduceToNat, Int.reduceLT, Int.reduceLE, Int.cast_ofNat_Int, decide_true, decide_false, Bool.and_self, reduceIte, reduceCtorEq]; with_reducible rfl)); (case he => simp))
    | (apply post_a; (case h1 => (simp only [go_sem, Nat.reduceBEq, Nat.reduceBNe, Nat.reduceLT, Nat.reduceGT, Int.reduceGT, Int.reduceMul, Int.reduceAdd, Int.reduceSub, Nat.reduceAdd, Nat.reduceMul, Nat.reduceLeDiff, Nat.reduceEqDiff, Nat.reduceSub, Int.reduceNeg, Int.reduceToNat, Int.reduceLT, Int.reduceLE, Int.cast_ofNat_Int, decide_true, decide_false, Bool.and_self, reduceIte, reduceCtorEq]; with_reducible rfl)); (case he => simp))
    | (refine hK _ ?_; clear hK)
    | (clear hK; refine hK _ ?_; clear hK)
    | (clear hK; clear hK; refine hK _ ?_; clear hK)
    | (clear hK; clear hK; clear hK; refine hK _ ?_; clear hK)
    | (clear hK; clear hK; clear hK; clear hK; refine hK _ ?_; clear hK)
    | fail
  all_goals rfl

def refTrmRightF (t : Trm) : Bool :=
  if t.kind = 1 then decide (0 ≤ t.table ∧ t.table ≤ 63 ∧ 0 ≤ t.col ∧ t.col ≤ 3) && (!t.v.null && decide (t.v.n = 0))
  else decide (t.kind = 2 ∧ t.table = 0 ∧ t.col = 0) && (!t.v.null || decide (t.v.n = 0))

end Go.Proofs.Ytigkkfhpnfjmhaa.AL
