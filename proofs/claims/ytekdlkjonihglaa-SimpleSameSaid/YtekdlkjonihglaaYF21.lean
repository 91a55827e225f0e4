/- Contracts: which predicates may be. -/
import Derived.Test.YtekdlkjonihglaaYF20
import Derived.Test.YtekdlkjonihglaaYF5b
namespace Go.Proofs.Ytekdlkjonihglaa.AL
open Go
set_option linter.unusedVariables false
set_option linter.unusedSimpArgs false
set_option maxRecDepth 4000
def headF (p : Prd) : Bool := bareF p &&
  (if p.kind = 1 then decide (p.parts.length = 0) && decide (0 ≤ p.truth ∧ p.truth ≤ 2)
  else if p.kind = 2 then decide (p.parts.length = 0) && (decide (1 ≤ p.op ∧ p.op ≤ 6) && (refTrmRightF p.a && refTrmRightF p.b))
  else if p.kind = 3 then decide (p.parts.length = 0) && refTrmRightF p.a
  else if p.kind = 4 ∨ p.kind = 5 then decide (p.parts.length ≤ 4)
  else if p.kind = 6 then decide (p.parts.length = 1) else false)
mutual
def atF : Prd → Int → Bool
  | .mk k t o a b ps, d => decide (d ≤ 4) && (headF (.mk k t o a b ps) && atL ps (d + 1))
def atL : List Prd → Int → Bool
  | [], _ => true
  | p :: l, d => atF p d && atL l d
end
theorem atL_all (d : Int) : ∀ l : List Prd, atL l d = l.all fun x => atF x d
  | [] => by rw [atL]; rfl
  | p :: l => by rw [atL, atL_all d l]; rfl
theorem any_not (g : Prd → Bool) : ∀ l : List Prd, (!l.any fun x => !g x) = l.all g
  | [] => rfl
  | p :: l => by rw [List.any_cons, List.all_cons, ← any_not g l]; cases g p <;> simp
theorem atF_eq (p : Prd) (d : Int) : atF p d = (decide (d ≤ 4) && (headF p && p.parts.all fun x => atF x (d + 1))) := by
  cases p; rw [atF, atL_all]; rfl
theorem dep_in {d : Int} (h : 1 ≤ d ∧ d ≤ 5) : IntKind.i64.wrap (d + 1) = d + 1 := wi (by omega)

set_option maxHeartbeats 4000000 in
theorem c_rightAt1 (x : Prd) (d : Int) (h : 1 ≤ d ∧ d ≤ 5) (hx : FC Try.prog 58 [x.e, .int .i64 (d + 1)] (.v (.bool (atF x (d + 1))))) : FC Try.prog 84 [x.e, .ro [.int .i64 d]] (.v (.bool (!atF x (d + 1)))) := by
  refine fc_of_body (nt := 9) (rs := [.tmp 3]) (ts := [(0, _), (1, _)]) Try.func84 rfl rfl rfl rfl (by decide) (Nat.le_of_ble_eq_true rfl) ?_
  repeat' first
    | refine thenQ_n ?_
    | refine thenQ_r ?_
    | refine thenQ_e ?_
    | refine blockQ_n ?_
    | refine blockQ_r ?_
    | refine blockQ_e ?_
    | refine blockQ_o ?_ (by rfl)
    | (refine tri_seq fun K hK => ?_)
    | refine tri_skip ?_
    | refine tri_ret ?_
    | refine tri_exit ?_
    | refine tri_block ?_
    | refine tri_region ?_
    | refine sq_nil ?_
    | (apply sq_go; (case hs => (simp only [go_sem, Nat.reduceBEq, Nat.reduceBNe, Nat.reduceLT, Nat.reduceGT, Int.reduceGT, Int.reduceMul, Int.reduceAdd, Int.reduceSub, Nat.reduceAdd, Nat.reduceMul, Nat.reduceLeDiff, Nat.reduceEqDiff, Nat.reduceSub, Int.reduceNeg, Int.reduceToNat, Int.reduceLT, Int.reduceLE, Int.cast_ofNat_Int, decide_true, decide_false, Bool.and_self, reduceIte, reduceCtorEq, dep_in h]; with_reducible rfl)))
    | (apply sq_call (hx); (case hs => (simp only [go_sem, Nat.reduceBEq, Nat.reduceBNe, Nat.reduceLT, Nat.reduceGT, Int.reduceGT, Int.reduceMul, Int.reduceAdd, Int.reduceSub, Nat.reduceAdd, Nat.reduceMul, Nat.reduceLeDiff, Nat.reduceEqDiff, Nat.reduceSub, Int.reduceNeg, Int.reduceToNat, Int.reduceLT, Int.reduceLE, Int.cast_ofNat_Int, decide_true, decide_false, Bool.and_self, reduceIte, reduceCtorEq, dep_in h] <;> rfl)); (case hr => (simp only [go_sem, Nat.reduceBEq, Nat.reduceBNe, Nat.reduceLT, Nat.reduceGT, Int.reduceGT, Int.reduceMul, Int.reduceAdd, Int.reduceSub, Nat.reduceAdd, Nat.reduceMul, Nat.reduceLeDiff, Nat.reduceEqDiff, Nat.reduceSub, Int.reduceNeg, Int.reduceToNat, Int.reduceLT, Int.reduceLE, Int.cast_ofNat_Int, decide_true, decide_false, Bool.and_self, reduceIte, reduceCtorEq, dep_in h]; with_reducible rfl)))
    | (apply sq_no; (case hs => (simp only [go_sem, Nat.reduceBEq, Nat.reduceBNe, Nat.reduceLT, Nat.reduceGT, Int.reduceGT, Int.reduceMul, Int.reduceAdd, Int.reduceSub, Nat.reduceAdd, Nat.reduceMul, Nat.reduceLeDiff, Nat.reduceEqDiff, Nat.reduceSub, Int.reduceNeg, Int.reduceToNat, Int.reduceLT, Int.reduceLE, Int.cast_ofNat_Int, decide_true, decide_false, Bool.and_self, reduceIte, reduceCtorEq, dep_in h]; with_reducible rfl)))
    | (apply sq_if; (case hg => (simp only [go_sem, Nat.reduceBEq, Nat.reduceBNe, Nat.reduceLT, Nat.reduceGT, Int.reduceGT, Int.reduceMul, Int.reduceAdd, Int.reduceSub, Nat.reduceAdd, Nat.reduceMul, Nat.reduceLeDiff, Nat.reduceEqDiff, Nat.reduceSub, Int.reduceNeg, Int.reduceToNat, Int.reduceLT, Int.reduceLE, Int.cast_ofNat_Int, decide_true, decide_false, Bool.and_self, reduceIte, reduceCtorEq, dep_in h]; with_reducible rfl)); all_goals (intro hb; (try simp only [reduceCtorEq] at hb); (try simp only [hb])))
    | (apply tri_ci; (case hc => (simp only [go_sem, Nat.reduceBEq, Nat.reduceBNe, Nat.reduceLT, Nat.reduceGT, Int.reduceGT, Int.reduceMul, Int.reduceAdd, Int.reduceSub, Nat.reduceAdd, Nat.reduceMul, Nat.reduceLeDiff, Nat.reduceEqDiff, Nat.reduceSub, Int.reduceNeg, Int.reduceToNat, Int.reduceLT, Int.reduceLE, Int.cast_ofNat_Int, decide_true, decide_false, Bool.and_self, reduceIte, reduceCtorEq, dep_in h]; with_reducible rfl)); all_goals (intro hb; (try simp only [reduceCtorEq] at hb); (try simp only [hb])))
    | (apply post_r; (case h1 => (simp only [go_sem, Nat.reduceBEq, Nat.reduceBNe, Nat.reduceLT, Nat.reduceGT, Int.reduceGT, Int.reduceMul, Int.reduceAdd, Int.reduceSub, Nat.reduceAdd, Nat.reduceMul, Nat.reduceLeDiff, Nat.reduceEqDiff, Nat.reduceSub, Int.reduceNeg, Int.reduceToNat, Int.reduceLT, Int.reduceLE, Int.cast_ofNat_Int, decide_true, decide_false, Bool.and_self, reduceIte, reduceCtorEq, dep_in h]; with_reducible rfl)); (case he => simp))
    | (apply post_a; (case h1 => (simp only [go_sem, Nat.reduceBEq, Nat.reduceBNe, Nat.reduceLT, Nat.reduceGT, Int.reduceGT, Int.reduceMul, Int.reduceAdd, Int.reduceSub, Nat.reduceAdd, Nat.reduceMul, Nat.reduceLeDiff, Nat.reduceEqDiff, Nat.reduceSub, Int.reduceNeg, Int.reduceToNat, Int.reduceLT, Int.reduceLE, Int.cast_ofNat_Int, decide_true, decide_false, Bool.and_self, reduceIte, reduceCtorEq, dep_in h]; with_reducible rfl)); (case he => simp))
    | (refine hK _ ?_; clear hK)
    | (clear hK; refine hK _ ?_; clear hK)
    | (clear hK; clear hK; refine hK _ ?_; clear hK)
    | (clear hK; clear hK; clear hK; refine hK _ ?_; clear hK)
    | (clear hK; clear hK; clear hK; clear hK; refine hK _ ?_; clear hK)
    | fail
  all_goals rfl

set_option maxHeartbeats 4000000 in
theorem c_rightAt (p : Prd) (d : Int) (h : 1 ≤ d ∧ d ≤ 5) : FC Try.prog 58 [p.e, .int .i64 d] (.v (.bool (atF p d))) := by
  revert h
  revert d
  induction p using Prd.ind
  rename_i p ih
  intro d h
  have cb := c_bare p
  simp only [Prd.e_eq] at cb
  by_cases h4 : d ≤ 4
  case neg =>
    have hd : decide (4 < d) = true := by simp only [decide_eq_true_eq]; omega
    refine fc_of_body (nt := 72) (rs := [.tmp 4]) (ts := [(0, _), (1, _)]) Try.func58 rfl rfl rfl rfl (by decide) (Nat.le_of_ble_eq_true rfl) ?_
    repeat' first
      | refine thenQ_n ?_
      | refine thenQ_r ?_
      | refine thenQ_e ?_
      | refine blockQ_n ?_
      | refine blockQ_r ?_
      | refine blockQ_e ?_
      | refine blockQ_o ?_ (by rfl)
      | (refine tri_seq fun K hK => ?_)
      | refine tri_skip ?_
      | refine tri_ret ?_
      | refine tri_exit ?_
      | refine tri_block ?_
      | refine tri_region ?_
      | refine sq_nil ?_
      | (apply sq_go; (case hs => (simp only [go_sem, Nat.reduceBEq, Nat.reduceBNe, Nat.reduceLT, Nat.reduceGT, Int.reduceGT, Int.reduceMul, Int.reduceAdd, Int.reduceSub, Nat.reduceAdd, Nat.reduceMul, Nat.reduceLeDiff, Nat.reduceEqDiff, Nat.reduceSub, Int.reduceNeg, Int.reduceToNat, Int.reduceLT, Int.reduceLE, Int.cast_ofNat_Int, decide_true, decide_false, Bool.and_self, reduceIte, reduceCtorEq, hd]; with_reducible rfl)))
      | (apply sq_no; (case hs => (simp only [go_sem, Nat.reduceBEq, Nat.reduceBNe, Nat.reduceLT, Nat.reduceGT, Int.reduceGT, Int.reduceMul, Int.reduceAdd, Int.reduceSub, Nat.reduceAdd, Nat.reduceMul, Nat.reduceLeDiff, Nat.reduceEqDiff, Nat.reduceSub, Int.reduceNeg, Int.reduceToNat, Int.reduceLT, Int.reduceLE, Int.cast_ofNat_Int, decide_true, decide_false, Bool.and_self, reduceIte, reduceCtorEq, hd]; with_reducible rfl)))
      | (apply sq_if; (case hg => (simp only [go_sem, Nat.reduceBEq, Nat.reduceBNe, Nat.reduceLT, Nat.reduceGT, Int.reduceGT, Int.reduceMul, Int.reduceAdd, Int.reduceSub, Nat.reduceAdd, Nat.reduceMul, Nat.reduceLeDiff, Nat.reduceEqDiff, Nat.reduceSub, Int.reduceNeg, Int.reduceToNat, Int.reduceLT, Int.reduceLE, Int.cast_ofNat_Int, decide_true, decide_false, Bool.and_self, reduceIte, reduceCtorEq, hd]; with_reducible rfl)); all_goals (intro hb; (try simp only [reduceCtorEq] at hb); (try simp only [hb])))
      | (apply tri_ci; (case hc => (simp only [go_sem, Nat.reduceBEq, Nat.reduceBNe, Nat.reduceLT, Nat.reduceGT, Int.reduceGT, Int.reduceMul, Int.reduceAdd, Int.reduceSub, Nat.reduceAdd, Nat.reduceMul, Nat.reduceLeDiff, Nat.reduceEqDiff, Nat.reduceSub, Int.reduceNeg, Int.reduceToNat, Int.reduceLT, Int.reduceLE, Int.cast_ofNat_Int, decide_true, decide_false, Bool.and_self, reduceIte, reduceCtorEq, hd]; with_reducible rfl)); all_goals (intro hb; (try simp only [reduceCtorEq] at hb); (try simp only [hb])))
      | (apply post_r; (case h1 => (simp only [go_sem, Nat.reduceBEq, Nat.reduceBNe, Nat.reduceLT, Nat.reduceGT, Int.reduceGT, Int.reduceMul, Int.reduceAdd, Int.reduceSub, Nat.reduceAdd, Nat.reduceMul, Nat.reduceLeDiff, Nat.reduceEqDiff, Nat.reduceSub, Int.reduceNeg, Int.reduceToNat, Int.reduceLT, Int.reduceLE, Int.cast_ofNat_Int, decide_true, decide_false, Bool.and_self, reduceIte, reduceCtorEq, hd]; with_reducible rfl)); (case he => simp))
      | (apply post_a; (case h1 => (simp only [go_sem, Nat.reduceBEq, Nat.reduceBNe, Nat.reduceLT, Nat.reduceGT, Int.reduceGT, Int.reduceMul, Int.reduceAdd, Int.reduceSub, Nat.reduceAdd, Nat.reduceMul, Nat.reduceLeDiff, Nat.reduceEqDiff, Nat.reduceSub, Int.reduceNeg, Int.reduceToNat, Int.reduceLT, Int.reduceLE, Int.cast_ofNat_Int, decide_true, decide_false, Bool.and_self, reduceIte, reduceCtorEq, hd]; with_reducible rfl)); (case he => simp))
      | (refine hK _ ?_; clear hK)
      | (clear hK; refine hK _ ?_; clear hK)
      | (clear hK; clear hK; refine hK _ ?_; clear hK)
      | (clear hK; clear hK; clear hK; refine hK _ ?_; clear hK)
      | (clear hK; clear hK; clear hK; clear hK; refine hK _ ?_; clear hK)
      | fail
    all_goals (repeat (clear hK))
    rw [atF_eq]
    simp [h4]
  have hd : decide (4 < d) = false := by simp only [decide_eq_false_iff_not]; omega
  have cc := c_containsP (f := 84) (cs := [.ro [.int .i64 d]]) p.parts (fun x hx => c_rightAt1 x d h (ih x hx (d + 1) (by omega)))
  have hall := any_not (fun x => atF x (d + 1)) p.parts
  generalize hany : (p.parts.any fun x => !atF x (d + 1)) = B at cc hall
  have hres : atF p d = (headF p && !B) := by rw [atF_eq, ← hall]; simp [h4]
  rw [hres]
  clear hres hall hany ih
  refine fc_of_body (nt := 72) (rs := [.tmp 4]) (ts := [(0, _), (1, _)]) Try.func58 rfl rfl rfl rfl (by decide) (Nat.le_of_ble_eq_true rfl) ?_
  repeat' first
    | (apply tri_frz 3 (by decide); (case hb => (simp only [go_sem, Nat.reduceBEq, Nat.reduceBNe, Nat.reduceLT, Nat.reduceGT, Int.reduceGT, Int.reduceMul, Int.reduceAdd, Int.reduceSub, Nat.reduceAdd, Nat.reduceMul, Nat.reduceLeDiff, Nat.reduceEqDiff, Nat.reduceSub, Int.reduceNeg, Int.reduceToNat, Int.reduceLT, Int.reduceLE, Int.cast_ofNat_Int, decide_true, decide_false, Bool.and_self, reduceIte, reduceCtorEq]; with_reducible rfl)); (case hc => (simp only [go_sem, Nat.reduceBEq, Nat.reduceBNe, Nat.reduceLT, Nat.reduceGT, Int.reduceGT, Int.reduceMul, Int.reduceAdd, Int.reduceSub, Nat.reduceAdd, Nat.reduceMul, Nat.reduceLeDiff, Nat.reduceEqDiff, Nat.reduceSub, Int.reduceNeg, Int.reduceToNat, Int.reduceLT, Int.reduceLE, Int.cast_ofNat_Int, decide_true, decide_false, Bool.and_self, reduceIte, reduceCtorEq]; with_reducible rfl)); try simp only [go_sem, Nat.reduceBEq])
    | refine thenQ_n ?_
    | refine thenQ_r ?_
    | refine thenQ_e ?_
    | refine blockQ_n ?_
    | refine blockQ_r ?_
    | refine blockQ_e ?_
    | refine blockQ_o ?_ (by rfl)
    | (refine tri_seq fun K hK => ?_)
    | refine tri_skip ?_
    | refine tri_ret ?_
    | refine tri_exit ?_
    | refine tri_block ?_
    | refine tri_region ?_
    | refine sq_nil ?_
    | (apply sq_c2; (case hc => rfl); (case hs => (simp only [go_sem, Nat.reduceBEq, Nat.reduceBNe, Nat.reduceLT, Nat.reduceGT, Int.reduceGT, Int.reduceMul, Int.reduceAdd, Int.reduceSub, Nat.reduceAdd, Nat.reduceMul, Nat.reduceLeDiff, Nat.reduceEqDiff, Nat.reduceSub, Int.reduceNeg, Int.reduceToNat, Int.reduceLT, Int.reduceLE, Int.cast_ofNat_Int, decide_true, decide_false, Bool.and_self, reduceIte, reduceCtorEq, hd, List.length_map]; with_reducible rfl)); (case hfc => first | exact cb | exact c_logicRight p.truth | exact c_trmRight p.a | exact c_trmRight p.b | exact cc); (case hr => (simp only [go_sem, Nat.reduceBEq, Nat.reduceBNe, Nat.reduceLT, Nat.reduceGT, Int.reduceGT, Int.reduceMul, Int.reduceAdd, Int.reduceSub, Nat.reduceAdd, Nat.reduceMul, Nat.reduceLeDiff, Nat.reduceEqDiff, Nat.reduceSub, Int.reduceNeg, Int.reduceToNat, Int.reduceLT, Int.reduceLE, Int.cast_ofNat_Int, decide_true, decide_false, Bool.and_self, reduceIte, reduceCtorEq, hd, List.length_map]; with_reducible rfl)))
    | (apply sq_go; (case hs => (simp only [go_sem, Nat.reduceBEq, Nat.reduceBNe, Nat.reduceLT, Nat.reduceGT, Int.reduceGT, Int.reduceMul, Int.reduceAdd, Int.reduceSub, Nat.reduceAdd, Nat.reduceMul, Nat.reduceLeDiff, Nat.reduceEqDiff, Nat.reduceSub, Int.reduceNeg, Int.reduceToNat, Int.reduceLT, Int.reduceLE, Int.cast_ofNat_Int, decide_true, decide_false, Bool.and_self, reduceIte, reduceCtorEq, hd, List.length_map]; with_reducible rfl)))
    | (apply sq_no; (case hs => (simp only [go_sem, Nat.reduceBEq, Nat.reduceBNe, Nat.reduceLT, Nat.reduceGT, Int.reduceGT, Int.reduceMul, Int.reduceAdd, Int.reduceSub, Nat.reduceAdd, Nat.reduceMul, Nat.reduceLeDiff, Nat.reduceEqDiff, Nat.reduceSub, Int.reduceNeg, Int.reduceToNat, Int.reduceLT, Int.reduceLE, Int.cast_ofNat_Int, decide_true, decide_false, Bool.and_self, reduceIte, reduceCtorEq, hd, List.length_map]; with_reducible rfl)))
    | (apply sq_if; (case hg => (simp only [go_sem, Nat.reduceBEq, Nat.reduceBNe, Nat.reduceLT, Nat.reduceGT, Int.reduceGT, Int.reduceMul, Int.reduceAdd, Int.reduceSub, Nat.reduceAdd, Nat.reduceMul, Nat.reduceLeDiff, Nat.reduceEqDiff, Nat.reduceSub, Int.reduceNeg, Int.reduceToNat, Int.reduceLT, Int.reduceLE, Int.cast_ofNat_Int, decide_true, decide_false, Bool.and_self, reduceIte, reduceCtorEq, hd, List.length_map]; with_reducible rfl)); all_goals (intro hb; (try simp only [reduceCtorEq] at hb); (try simp only [hb])))
    | (apply tri_ci; (case hc => (simp only [go_sem, Nat.reduceBEq, Nat.reduceBNe, Nat.reduceLT, Nat.reduceGT, Int.reduceGT, Int.reduceMul, Int.reduceAdd, Int.reduceSub, Nat.reduceAdd, Nat.reduceMul, Nat.reduceLeDiff, Nat.reduceEqDiff, Nat.reduceSub, Int.reduceNeg, Int.reduceToNat, Int.reduceLT, Int.reduceLE, Int.cast_ofNat_Int, decide_true, decide_false, Bool.and_self, reduceIte, reduceCtorEq, hd, List.length_map]; with_reducible rfl)); all_goals (intro hb; (try simp only [reduceCtorEq] at hb); (try simp only [hb])))
    | (apply post_r; (case h1 => (simp only [go_sem, Nat.reduceBEq, Nat.reduceBNe, Nat.reduceLT, Nat.reduceGT, Int.reduceGT, Int.reduceMul, Int.reduceAdd, Int.reduceSub, Nat.reduceAdd, Nat.reduceMul, Nat.reduceLeDiff, Nat.reduceEqDiff, Nat.reduceSub, Int.reduceNeg, Int.reduceToNat, Int.reduceLT, Int.reduceLE, Int.cast_ofNat_Int, decide_true, decide_false, Bool.and_self, reduceIte, reduceCtorEq, hd, List.length_map]; with_reducible rfl)); (case he => simp))
    | (apply post_a; (case h1 => (simp only [go_sem, Nat.reduceBEq, Nat.reduceBNe, Nat.reduceLT, Nat.reduceGT, Int.reduceGT, Int.reduceMul, Int.reduceAdd, Int.reduceSub, Nat.reduceAdd, Nat.reduceMul, Nat.reduceLeDiff, Nat.reduceEqDiff, Nat.reduceSub, Int.reduceNeg, Int.reduceToNat, Int.reduceLT, Int.reduceLE, Int.cast_ofNat_Int, decide_true, decide_false, Bool.and_self, reduceIte, reduceCtorEq, hd, List.length_map]; with_reducible rfl)); (case he => simp))
    | (refine hK _ ?_; clear hK)
    | (clear hK; refine hK _ ?_; clear hK)
    | (clear hK; clear hK; refine hK _ ?_; clear hK)
    | (clear hK; clear hK; clear hK; refine hK _ ?_; clear hK)
    | (clear hK; clear hK; clear hK; clear hK; refine hK _ ?_; clear hK)
    | fail
  all_goals (repeat (clear hK))
  all_goals (clear cb cc)
  all_goals (refine congrArg _ (Eq.symm ?_))
  all_goals (generalize hbp : bareF p = bp at *)
  all_goals (generalize hla : refTrmRightF p.a = la at *)
  all_goals (generalize hlb : refTrmRightF p.b = lb at *)
  all_goals (simp only [headF, hbp, hla, hlb])
  all_goals (clear hbp hla hlb)
  all_goals first | (simp_all; done) | (simp_all <;> omega) | grind

set_option maxHeartbeats 4000000 in
theorem c_prdRight (p : Prd) : FC Try.prog 36 [p.e] (.v (.bool (atF p 1))) := by
  refine fc_of_body (nt := 5) (rs := [.tmp 2]) (ts := [(0, _)]) Try.func36 rfl rfl rfl rfl (by decide) (Nat.le_of_ble_eq_true rfl) ?_
  repeat' first
    | refine thenQ_n ?_
    | refine thenQ_r ?_
    | refine thenQ_e ?_
    | refine blockQ_n ?_
    | refine blockQ_r ?_
    | refine blockQ_e ?_
    | refine blockQ_o ?_ (by rfl)
    | (refine tri_seq fun K hK => ?_)
    | refine tri_skip ?_
    | refine tri_ret ?_
    | refine tri_exit ?_
    | refine tri_block ?_
    | refine tri_region ?_
    | refine sq_nil ?_
    | (apply sq_go; (case hs => (simp only [go_sem, Nat.reduceBEq, Nat.reduceBNe, Nat.reduceLT, Nat.reduceGT, Int.reduceGT, Int.reduceMul, Int.reduceAdd, Int.reduceSub, Nat.reduceAdd, Nat.reduceMul, Nat.reduceLeDiff, Nat.reduceEqDiff, Nat.reduceSub, Int.reduceNeg, Int.reduceToNat, Int.reduceLT, Int.reduceLE, Int.cast_ofNat_Int, decide_true, decide_false, Bool.and_self, reduceIte, reduceCtorEq]; with_reducible rfl)))
    | (apply sq_call (c_rightAt p 1 (by omega)); (case hs => (simp only [go_sem, Nat.reduceBEq, Nat.reduceBNe, Nat.reduceLT, Nat.reduceGT, Int.reduceGT, Int.reduceMul, Int.reduceAdd, Int.reduceSub, Nat.reduceAdd, Nat.reduceMul, Nat.reduceLeDiff, Nat.reduceEqDiff, Nat.reduceSub, Int.reduceNeg, Int.reduceToNat, Int.reduceLT, Int.reduceLE, Int.cast_ofNat_Int, decide_true, decide_false, Bool.and_self, reduceIte, reduceCtorEq] <;> rfl)); (case hr => (simp only [go_sem, Nat.reduceBEq, Nat.reduceBNe, Nat.reduceLT, Nat.reduceGT, Int.reduceGT, Int.reduceMul, Int.reduceAdd, Int.reduceSub, Nat.reduceAdd, Nat.reduceMul, Nat.reduceLeDiff, Nat.reduceEqDiff, Nat.reduceSub, Int.reduceNeg, Int.reduceToNat, Int.reduceLT, Int.reduceLE, Int.cast_ofNat_Int, decide_true, decide_false, Bool.and_self, reduceIte, reduceCtorEq]; with_reducible rfl)))
    | (apply sq_no; (case hs => (simp only [go_sem, Nat.reduceBEq, Nat.reduceBNe, Nat.reduceLT, Nat.reduceGT, Int.reduceGT, Int.reduceMul, Int.reduceAdd, Int.reduceSub, Nat.reduceAdd, Nat.reduceMul, Nat.reduceLeDiff, Nat.reduceEqDiff, Nat.reduceSub, Int.reduceNeg, Int.reduceToNat, Int.reduceLT, Int.reduceLE, Int.cast_ofNat_Int, decide_true, decide_false, Bool.and_self, reduceIte, reduceCtorEq]; with_reducible rfl)))
    | (apply sq_if; (case hg => (simp only [go_sem, Nat.reduceBEq, Nat.reduceBNe, Nat.reduceLT, Nat.reduceGT, Int.reduceGT, Int.reduceMul, Int.reduceAdd, Int.reduceSub, Nat.reduceAdd, Nat.reduceMul, Nat.reduceLeDiff, Nat.reduceEqDiff, Nat.reduceSub, Int.reduceNeg, Int.reduceToNat, Int.reduceLT, Int.reduceLE, Int.cast_ofNat_Int, decide_true, decide_false, Bool.and_self, reduceIte, reduceCtorEq]; with_reducible rfl)); all_goals (intro hb; (try simp only [reduceCtorEq] at hb); (try simp only [hb])))
    | (apply tri_ci; (case hc => (simp only [go_sem, Nat.reduceBEq, Nat.reduceBNe, Nat.reduceLT, Nat.reduceGT, Int.reduceGT, Int.reduceMul, Int.reduceAdd, Int.reduceSub, Nat.reduceAdd, Nat.reduceMul, Nat.reduceLeDiff, Nat.reduceEqDiff, Nat.reduceSub, Int.reduceNeg, Int.reduceToNat, Int.reduceLT, Int.reduceLE, Int.cast_ofNat_Int, decide_true, decide_false, Bool.and_self, reduceIte, reduceCtorEq]; with_reducible rfl)); all_goals (intro hb; (try simp only [reduceCtorEq] at hb); (try simp only [hb])))
    | (apply post_r; (case h1 => (simp only [go_sem, Nat.reduceBEq, Nat.reduceBNe, Nat.reduceLT, Nat.reduceGT, Int.reduceGT, Int.reduceMul, Int.reduceAdd, Int.reduceSub, Nat.reduceAdd, Nat.reduceMul, Nat.reduceLeDiff, Nat.reduceEqDiff, Nat.reduceSub, Int.reduceNeg, Int.reduceToNat, Int.reduceLT, Int.reduceLE, Int.cast_ofNat_Int, decide_true, decide_false, Bool.and_self, reduceIte, reduceCtorEq]; with_reducible rfl)); (case he => simp))
    | (apply post_a; (case h1 => (simp only [go_sem, Nat.reduceBEq, Nat.reduceBNe, Nat.reduceLT, Nat.reduceGT, Int.reduceGT, Int.reduceMul, Int.reduceAdd, Int.reduceSub, Nat.reduceAdd, Nat.reduceMul, Nat.reduceLeDiff, Nat.reduceEqDiff, Nat.reduceSub, Int.reduceNeg, Int.reduceToNat, Int.reduceLT, Int.reduceLE, Int.cast_ofNat_Int, decide_true, decide_false, Bool.and_self, reduceIte, reduceCtorEq]; with_reducible rfl)); (case he => simp))
    | (refine hK _ ?_; clear hK)
    | (clear hK; refine hK _ ?_; clear hK)
    | (clear hK; clear hK; refine hK _ ?_; clear hK)
    | (clear hK; clear hK; clear hK; refine hK _ ?_; clear hK)
    | (clear hK; clear hK; clear hK; clear hK; refine hK _ ?_; clear hK)
    | fail
  all_goals rfl

end Go.Proofs.Ytekdlkjonihglaa.AL
