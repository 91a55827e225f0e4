/- Contracts: what a predicate is. -/
import Derived.Test.YtekdlkjonihglaaYF8

namespace Go.Proofs.Ytekdlkjonihglaa.AL
open Go
set_option linter.unusedVariables false
set_option linter.unusedSimpArgs false
set_option maxRecDepth 4000
theorem three_of (t : Int) : threeF t = ofF t := by unfold threeF ofF; split <;> split <;> omega
theorem ofF_012 (t : Int) : ofF t = 0 ∨ ofF t = 1 ∨ ofF t = 2 := by unfold ofF; split <;> omega
theorem minF_go (l : List Int) : ∀ a : Int, (a = 0 ∨ a = 1 ∨ a = 2) → l.foldl (fun a x => if threeF x < a then threeF x else a) a = if a = 0 ∨ l.any (fun x => decide (ofF x = 0)) = true then 0 else if a = 1 ∨ l.any (fun x => decide (ofF x = 1)) = true then 1 else 2 := by
  induction l with
  | nil => intro a ha; simp only [List.foldl_nil, List.any_nil]; grind
  | cons x l ih =>
    intro a ha
    have hx := ofF_012 x
    rw [List.foldl_cons, three_of, ih _ (by split <;> omega)]
    simp only [List.any_cons, Bool.or_eq_true, decide_eq_true_eq]
    grind
theorem minF_eq (l : List Int) : minF l = firstF l 0 1 2 := by
  unfold minF firstF; rw [minF_go l 2 (by omega)]; simp
theorem maxF_go (l : List Int) : ∀ a : Int, (a = 0 ∨ a = 1 ∨ a = 2) → l.foldl (fun a x => if threeF x > a then threeF x else a) a = if a = 2 ∨ l.any (fun x => decide (ofF x = 2)) = true then 2 else if a = 1 ∨ l.any (fun x => decide (ofF x = 1)) = true then 1 else 0 := by
  induction l with
  | nil => intro a ha; simp only [List.foldl_nil, List.any_nil]; grind
  | cons x l ih =>
    intro a ha
    have hx := ofF_012 x
    rw [List.foldl_cons, three_of, ih _ (by split <;> omega)]
    simp only [List.any_cons, Bool.or_eq_true, decide_eq_true_eq]
    grind
theorem maxF_eq (l : List Int) : maxF l = firstF l 2 1 0 := by
  unfold maxF firstF; rw [maxF_go l 0 (by omega)]; simp
theorem c_refAnd1 (l : List Int) : FC Try.prog 70 [intsE l] (.v (.int .i64 (firstF l 0 1 2))) := minF_eq l ▸ c_refAnd l
theorem c_refOr1 (l : List Int) : FC Try.prog 91 [intsE l] (.v (.int .i64 (firstF l 2 1 0))) := maxF_eq l ▸ c_refOr l
theorem c_refNot1 (t : Int) : FC Try.prog 92 [.int .i64 t] (.v (.int .i64 (2 - ofF t))) := three_of t ▸ c_refNot t
def notHd : List Int → Int
  | [] => 1
  | x :: _ => 2 - ofF x
def ofK (k t o : Int) (va vb : Val) (l : List Int) : Int :=
  if k = 1 then firstF [t] 0 1 2 else if k = 2 then refCmpF o va vb else if k = 3 then truthF va.null else if k = 4 then firstF l 0 1 2 else if k = 5 then firstF l 2 1 0 else if k = 6 then notHd l else 1
mutual
def ofPF (rows : List (List Val)) : Prd → Int
  | .mk k t o a b ps => ofK k t o (trmOfF a rows) (trmOfF b rows) (ofPL rows ps)
def ofPL (rows : List (List Val)) : List Prd → List Int
  | [] => []
  | p :: l => ofPF rows p :: ofPL rows l
end
theorem ofPL_map (rows : List (List Val)) : ∀ l, ofPL rows l = l.map (ofPF rows)
  | [] => rfl
  | p :: l => by simp only [ofPL, List.map_cons, ofPL_map rows l]
theorem ofPF_eq (rows : List (List Val)) (p : Prd) : ofPF rows p = ofK p.kind p.truth p.op (trmOfF p.a rows) (trmOfF p.b rows) (p.parts.map (ofPF rows)) := by
  cases p; rw [ofPF, ofPL_map]; rfl

set_option maxHeartbeats 4000000 in
theorem c_of1 (p : Prd) (rows : List (List Val)) (hn : p.parts.length ≤ 1000000) (ih : ∀ x ∈ p.parts, FC Try.prog 39 [x.e, rowsE rows] (.v (.int .i64 (ofPF rows x)))) : FC Try.prog 62 [.ro [.int .i64 p.kind, .int .i64 p.truth, .int .i64 p.op, .int .i64 p.a.kind, .int .i64 p.a.table, .int .i64 p.a.col, .bool p.a.v.null, .int .i64 p.a.v.n, .int .i64 p.b.kind, .int .i64 p.b.table, .int .i64 p.b.col, .bool p.b.v.null, .int .i64 p.b.v.n, prdsE p.parts], .ro [rowsE rows]] (.ap 1 ((p.parts.map (ofPF rows)).map (.int .i64)) 0) := by
  refine fc_of_body (nt := 21) (rs := [.tmp 2]) (ts := [(0, _), (1, _)]) Try.func62 rfl rfl rfl rfl (by decide) (Nat.le_of_ble_eq_true rfl) ?_
  repeat' first
    | refine thenQ_n ?_
    | refine thenQ_r ?_
    | refine thenQ_e ?_
    | refine blockQ_n ?_
    | refine blockQ_r ?_
    | refine blockQ_e ?_
    | refine blockQ_o ?_ (by rfl)
    | (refine tri_seq fun K hK => ?_)
    | refine tri_skip ?_
    | refine tri_ret ?_
    | refine tri_exit ?_
    | refine tri_block ?_
    | refine tri_region ?_
    | refine sq_nil ?_
    | (apply sq_go; (case hs => (simp only [go_sem, Nat.reduceBEq, Nat.reduceBNe, Nat.reduceLT, Nat.reduceGT, Int.reduceGT, Int.reduceMul, Int.reduceAdd, Int.reduceSub, Nat.reduceAdd, Nat.reduceMul, Nat.reduceLeDiff, Nat.reduceEqDiff, Nat.reduceSub, Int.reduceNeg, Int.reduceToNat, Int.reduceLT, Int.reduceLE, Int.cast_ofNat_Int, decide_true, decide_false, Bool.and_self, reduceIte, reduceCtorEq]; with_reducible rfl)))
    | (apply sq_no; (case hs => (simp only [go_sem, Nat.reduceBEq, Nat.reduceBNe, Nat.reduceLT, Nat.reduceGT, Int.reduceGT, Int.reduceMul, Int.reduceAdd, Int.reduceSub, Nat.reduceAdd, Nat.reduceMul, Nat.reduceLeDiff, Nat.reduceEqDiff, Nat.reduceSub, Int.reduceNeg, Int.reduceToNat, Int.reduceLT, Int.reduceLE, Int.cast_ofNat_Int, decide_true, decide_false, Bool.and_self, reduceIte, reduceCtorEq]; with_reducible rfl)))
    | (apply sq_if; (case hg => (simp only [go_sem, Nat.reduceBEq, Nat.reduceBNe, Nat.reduceLT, Nat.reduceGT, Int.reduceGT, Int.reduceMul, Int.reduceAdd, Int.reduceSub, Nat.reduceAdd, Nat.reduceMul, Nat.reduceLeDiff, Nat.reduceEqDiff, Nat.reduceSub, Int.reduceNeg, Int.reduceToNat, Int.reduceLT, Int.reduceLE, Int.cast_ofNat_Int, decide_true, decide_false, Bool.and_self, reduceIte, reduceCtorEq]; with_reducible rfl)); all_goals (intro hb; (try simp only [reduceCtorEq] at hb); (try simp only [hb])))
    | (apply tri_ci; (case hc => (simp only [go_sem, Nat.reduceBEq, Nat.reduceBNe, Nat.reduceLT, Nat.reduceGT, Int.reduceGT, Int.reduceMul, Int.reduceAdd, Int.reduceSub, Nat.reduceAdd, Nat.reduceMul, Nat.reduceLeDiff, Nat.reduceEqDiff, Nat.reduceSub, Int.reduceNeg, Int.reduceToNat, Int.reduceLT, Int.reduceLE, Int.cast_ofNat_Int, decide_true, decide_false, Bool.and_self, reduceIte, reduceCtorEq]; with_reducible rfl)); all_goals (intro hb; (try simp only [reduceCtorEq] at hb); (try simp only [hb])))
    | (apply post_r; (case h1 => (simp only [go_sem, Nat.reduceBEq, Nat.reduceBNe, Nat.reduceLT, Nat.reduceGT, Int.reduceGT, Int.reduceMul, Int.reduceAdd, Int.reduceSub, Nat.reduceAdd, Nat.reduceMul, Nat.reduceLeDiff, Nat.reduceEqDiff, Nat.reduceSub, Int.reduceNeg, Int.reduceToNat, Int.reduceLT, Int.reduceLE, Int.cast_ofNat_Int, decide_true, decide_false, Bool.and_self, reduceIte, reduceCtorEq]; with_reducible rfl)); (case he => simp))
    | (apply post_a; (case h1 => (simp only [go_sem, Nat.reduceBEq, Nat.reduceBNe, Nat.reduceLT, Nat.reduceGT, Int.reduceGT, Int.reduceMul, Int.reduceAdd, Int.reduceSub, Nat.reduceAdd, Nat.reduceMul, Nat.reduceLeDiff, Nat.reduceEqDiff, Nat.reduceSub, Int.reduceNeg, Int.reduceToNat, Int.reduceLT, Int.reduceLE, Int.cast_ofNat_Int, decide_true, decide_false, Bool.and_self, reduceIte, reduceCtorEq]; with_reducible rfl)); (case he => simp))
    | (refine hK _ ?_; clear hK)
    | (clear hK; refine hK _ ?_; clear hK)
    | (clear hK; clear hK; refine hK _ ?_; clear hK)
    | (clear hK; clear hK; clear hK; refine hK _ ?_; clear hK)
    | (clear hK; clear hK; clear hK; clear hK; refine hK _ ?_; clear hK)
    | fail
  have hm : p.parts.length ≤ 9223372036854775807 := by omega
  refine tri_for (fun q : Nat × Nat => ⟨21, [(9, .v (.int .i64 (q.1 : Int))), (8, .v (.int .i64 (p.parts.length : Int))), (7, .v (prdsE p.parts)), (3, .ap 1 (((p.parts.take q.1).map (ofPF rows)).map (.int .i64)) q.2), (1, .v (.ro [rowsE rows]))], [], bif q.2 == 999999 then [] else [q.2]⟩)
    (fun q => q.1 ≤ p.parts.length ∧ (q.2 = 999999 ∨ q.2 = 18)) (fun q => p.parts.length - q.1) (0, 999999) ?_ ⟨Nat.zero_le _, .inl rfl⟩ ?_
  · exact le_of rfl (by simp [LeT, get]) (by simp [LeT, get]) (by simp [LeK, memK])
  rintro ⟨k, s⟩ ⟨hk, hs⟩
  simp only at hk hs
  by_cases hlt : k < p.parts.length
  · have hd : decide ((k : Int) < ((p.parts.length : Nat) : Int)) = true := by simpa using hlt
    have hw := wrap_succ hlt hm
    have hkl : (p.parts.take k).length = k := by rw [List.length_take]; omega
    have b1 : (k + 1) * 8 ≤ 140737488355328 := by omega
    have b2 : k + 1 ≤ 9223372036854775807 := by omega
    have ihk := ih p.parts[k] (List.getElem_mem hlt)
    rcases hs with rfl | rfl
    all_goals
      repeat' first
        | refine thenQ_n ?_
        | refine thenQ_r ?_
        | refine thenQ_e ?_
        | refine blockQ_n ?_
        | refine blockQ_r ?_
        | refine blockQ_e ?_
        | refine blockQ_o ?_ (by rfl)
        | (refine tri_seq fun K hK => ?_)
        | refine tri_skip ?_
        | refine tri_ret ?_
        | refine tri_exit ?_
        | refine tri_block ?_
        | refine tri_region ?_
        | refine sq_nil ?_
        | (apply sq_go; (case hs => (simp only [go_sem, Nat.reduceBEq, Nat.reduceBNe, Nat.reduceLT, Nat.reduceGT, Int.reduceGT, Int.reduceMul, Int.reduceAdd, Int.reduceSub, Nat.reduceAdd, Nat.reduceMul, Nat.reduceLeDiff, Nat.reduceEqDiff, Nat.reduceSub, Int.reduceNeg, Int.reduceToNat, Int.reduceLT, Int.reduceLE, Int.cast_ofNat_Int, decide_true, decide_false, Bool.and_self, reduceIte, reduceCtorEq, List.length_map, hkl, hd, hw, b1, b2, ixA_map hlt]; with_reducible rfl)))
        | (apply sq_call (ihk); (case hs => (simp only [go_sem, Nat.reduceBEq, Nat.reduceBNe, Nat.reduceLT, Nat.reduceGT, Int.reduceGT, Int.reduceMul, Int.reduceAdd, Int.reduceSub, Nat.reduceAdd, Nat.reduceMul, Nat.reduceLeDiff, Nat.reduceEqDiff, Nat.reduceSub, Int.reduceNeg, Int.reduceToNat, Int.reduceLT, Int.reduceLE, Int.cast_ofNat_Int, decide_true, decide_false, Bool.and_self, reduceIte, reduceCtorEq, List.length_map, hkl, hd, hw, b1, b2, ixA_map hlt] <;> rfl)); (case hr => (simp only [go_sem, Nat.reduceBEq, Nat.reduceBNe, Nat.reduceLT, Nat.reduceGT, Int.reduceGT, Int.reduceMul, Int.reduceAdd, Int.reduceSub, Nat.reduceAdd, Nat.reduceMul, Nat.reduceLeDiff, Nat.reduceEqDiff, Nat.reduceSub, Int.reduceNeg, Int.reduceToNat, Int.reduceLT, Int.reduceLE, Int.cast_ofNat_Int, decide_true, decide_false, Bool.and_self, reduceIte, reduceCtorEq, List.length_map, hkl, hd, hw, b1, b2, ixA_map hlt]; with_reducible rfl)))
        | (apply sq_no; (case hs => (simp only [go_sem, Nat.reduceBEq, Nat.reduceBNe, Nat.reduceLT, Nat.reduceGT, Int.reduceGT, Int.reduceMul, Int.reduceAdd, Int.reduceSub, Nat.reduceAdd, Nat.reduceMul, Nat.reduceLeDiff, Nat.reduceEqDiff, Nat.reduceSub, Int.reduceNeg, Int.reduceToNat, Int.reduceLT, Int.reduceLE, Int.cast_ofNat_Int, decide_true, decide_false, Bool.and_self, reduceIte, reduceCtorEq, List.length_map, hkl, hd, hw, b1, b2, ixA_map hlt]; with_reducible rfl)))
        | (apply sq_if; (case hg => (simp only [go_sem, Nat.reduceBEq, Nat.reduceBNe, Nat.reduceLT, Nat.reduceGT, Int.reduceGT, Int.reduceMul, Int.reduceAdd, Int.reduceSub, Nat.reduceAdd, Nat.reduceMul, Nat.reduceLeDiff, Nat.reduceEqDiff, Nat.reduceSub, Int.reduceNeg, Int.reduceToNat, Int.reduceLT, Int.reduceLE, Int.cast_ofNat_Int, decide_true, decide_false, Bool.and_self, reduceIte, reduceCtorEq, List.length_map, hkl, hd, hw, b1, b2, ixA_map hlt]; with_reducible rfl)); all_goals (intro hb; (try simp only [reduceCtorEq] at hb); (try simp only [hb])))
        | (apply tri_ci; (case hc => (simp only [go_sem, Nat.reduceBEq, Nat.reduceBNe, Nat.reduceLT, Nat.reduceGT, Int.reduceGT, Int.reduceMul, Int.reduceAdd, Int.reduceSub, Nat.reduceAdd, Nat.reduceMul, Nat.reduceLeDiff, Nat.reduceEqDiff, Nat.reduceSub, Int.reduceNeg, Int.reduceToNat, Int.reduceLT, Int.reduceLE, Int.cast_ofNat_Int, decide_true, decide_false, Bool.and_self, reduceIte, reduceCtorEq, List.length_map, hkl, hd, hw, b1, b2, ixA_map hlt]; with_reducible rfl)); all_goals (intro hb; (try simp only [reduceCtorEq] at hb); (try simp only [hb])))
        | (apply post_r; (case h1 => (simp only [go_sem, Nat.reduceBEq, Nat.reduceBNe, Nat.reduceLT, Nat.reduceGT, Int.reduceGT, Int.reduceMul, Int.reduceAdd, Int.reduceSub, Nat.reduceAdd, Nat.reduceMul, Nat.reduceLeDiff, Nat.reduceEqDiff, Nat.reduceSub, Int.reduceNeg, Int.reduceToNat, Int.reduceLT, Int.reduceLE, Int.cast_ofNat_Int, decide_true, decide_false, Bool.and_self, reduceIte, reduceCtorEq, List.length_map, hkl, hd, hw, b1, b2, ixA_map hlt]; with_reducible rfl)); (case he => simp))
        | (apply post_a; (case h1 => (simp only [go_sem, Nat.reduceBEq, Nat.reduceBNe, Nat.reduceLT, Nat.reduceGT, Int.reduceGT, Int.reduceMul, Int.reduceAdd, Int.reduceSub, Nat.reduceAdd, Nat.reduceMul, Nat.reduceLeDiff, Nat.reduceEqDiff, Nat.reduceSub, Int.reduceNeg, Int.reduceToNat, Int.reduceLT, Int.reduceLE, Int.cast_ofNat_Int, decide_true, decide_false, Bool.and_self, reduceIte, reduceCtorEq, List.length_map, hkl, hd, hw, b1, b2, ixA_map hlt]; with_reducible rfl)); (case he => simp))
        | (refine hK _ ?_; clear hK)
        | (clear hK; refine hK _ ?_; clear hK)
        | (clear hK; clear hK; refine hK _ ?_; clear hK)
        | (clear hK; clear hK; clear hK; refine hK _ ?_; clear hK)
        | (clear hK; clear hK; clear hK; clear hK; refine hK _ ?_; clear hK)
        | fail
    all_goals (repeat (clear hK))
    all_goals
      refine ⟨(k + 1, 18), ⟨hlt, .inr rfl⟩, by simp only; omega, le_of rfl ?_ (by simp [LeT, get]) (by simp [LeK, memK])⟩
      rw [List.take_succ_eq_append_getElem hlt]
      simp only [go_sem, Nat.reduceBEq, List.map_append]
  · have hd : decide ((k : Int) < ((p.parts.length : Nat) : Int)) = false := by simpa using hlt
    obtain rfl : k = p.parts.length := by omega
    rcases hs with rfl | rfl
    all_goals
      repeat' first
        | refine thenQ_n ?_
        | refine thenQ_r ?_
        | refine thenQ_e ?_
        | refine blockQ_n ?_
        | refine blockQ_r ?_
        | refine blockQ_e ?_
        | refine blockQ_o ?_ (by rfl)
        | (refine tri_seq fun K hK => ?_)
        | refine tri_skip ?_
        | refine tri_ret ?_
        | refine tri_exit ?_
        | refine tri_block ?_
        | refine tri_region ?_
        | refine sq_nil ?_
        | (apply sq_go; (case hs => (simp only [go_sem, Nat.reduceBEq, Nat.reduceBNe, Nat.reduceLT, Nat.reduceGT, Int.reduceGT, Int.reduceMul, Int.reduceAdd, Int.reduceSub, Nat.reduceAdd, Nat.reduceMul, Nat.reduceLeDiff, Nat.reduceEqDiff, Nat.reduceSub, Int.reduceNeg, Int.reduceToNat, Int.reduceLT, Int.reduceLE, Int.cast_ofNat_Int, decide_true, decide_false, Bool.and_self, reduceIte, reduceCtorEq, List.length_map, hd]; with_reducible rfl)))
        | (apply sq_no; (case hs => (simp only [go_sem, Nat.reduceBEq, Nat.reduceBNe, Nat.reduceLT, Nat.reduceGT, Int.reduceGT, Int.reduceMul, Int.reduceAdd, Int.reduceSub, Nat.reduceAdd, Nat.reduceMul, Nat.reduceLeDiff, Nat.reduceEqDiff, Nat.reduceSub, Int.reduceNeg, Int.reduceToNat, Int.reduceLT, Int.reduceLE, Int.cast_ofNat_Int, decide_true, decide_false, Bool.and_self, reduceIte, reduceCtorEq, List.length_map, hd]; with_reducible rfl)))
        | (apply sq_if; (case hg => (simp only [go_sem, Nat.reduceBEq, Nat.reduceBNe, Nat.reduceLT, Nat.reduceGT, Int.reduceGT, Int.reduceMul, Int.reduceAdd, Int.reduceSub, Nat.reduceAdd, Nat.reduceMul, Nat.reduceLeDiff, Nat.reduceEqDiff, Nat.reduceSub, Int.reduceNeg, Int.reduceToNat, Int.reduceLT, Int.reduceLE, Int.cast_ofNat_Int, decide_true, decide_false, Bool.and_self, reduceIte, reduceCtorEq, List.length_map, hd]; with_reducible rfl)); all_goals (intro hb; (try simp only [reduceCtorEq] at hb); (try simp only [hb])))
        | (apply tri_ci; (case hc => (simp only [go_sem, Nat.reduceBEq, Nat.reduceBNe, Nat.reduceLT, Nat.reduceGT, Int.reduceGT, Int.reduceMul, Int.reduceAdd, Int.reduceSub, Nat.reduceAdd, Nat.reduceMul, Nat.reduceLeDiff, Nat.reduceEqDiff, Nat.reduceSub, Int.reduceNeg, Int.reduceToNat, Int.reduceLT, Int.reduceLE, Int.cast_ofNat_Int, decide_true, decide_false, Bool.and_self, reduceIte, reduceCtorEq, List.length_map, hd]; with_reducible rfl)); all_goals (intro hb; (try simp only [reduceCtorEq] at hb); (try simp only [hb])))
        | (apply post_r; (case h1 => (simp only [go_sem, Nat.reduceBEq, Nat.reduceBNe, Nat.reduceLT, Nat.reduceGT, Int.reduceGT, Int.reduceMul, Int.reduceAdd, Int.reduceSub, Nat.reduceAdd, Nat.reduceMul, Nat.reduceLeDiff, Nat.reduceEqDiff, Nat.reduceSub, Int.reduceNeg, Int.reduceToNat, Int.reduceLT, Int.reduceLE, Int.cast_ofNat_Int, decide_true, decide_false, Bool.and_self, reduceIte, reduceCtorEq, List.length_map, hd]; with_reducible rfl)); (case he => simp))
        | (apply post_a; (case h1 => (simp only [go_sem, Nat.reduceBEq, Nat.reduceBNe, Nat.reduceLT, Nat.reduceGT, Int.reduceGT, Int.reduceMul, Int.reduceAdd, Int.reduceSub, Nat.reduceAdd, Nat.reduceMul, Nat.reduceLeDiff, Nat.reduceEqDiff, Nat.reduceSub, Int.reduceNeg, Int.reduceToNat, Int.reduceLT, Int.reduceLE, Int.cast_ofNat_Int, decide_true, decide_false, Bool.and_self, reduceIte, reduceCtorEq, List.length_map, hd]; with_reducible rfl)); (case he => simp))
        | (refine hK _ ?_; clear hK)
        | (clear hK; refine hK _ ?_; clear hK)
        | (clear hK; clear hK; refine hK _ ?_; clear hK)
        | (clear hK; clear hK; clear hK; refine hK _ ?_; clear hK)
        | (clear hK; clear hK; clear hK; clear hK; refine hK _ ?_; clear hK)
        | fail
    all_goals (repeat (clear hK))
    all_goals simp

end Go.Proofs.Ytekdlkjonihglaa.AL
