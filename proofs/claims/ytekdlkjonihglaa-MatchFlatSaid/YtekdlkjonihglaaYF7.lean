/- Contracts: predicates. -/
import Derived.Test.YtekdlkjonihglaaYF6
namespace Go.Proofs.Ytekdlkjonihglaa.AL
open Go
set_option linter.unusedVariables false
set_option linter.unusedSimpArgs false
set_option maxRecDepth 4000
inductive Prd where
  | mk (kind truth op : Int) (a b : Trm) (parts : List Prd)
def Prd.kind : Prd → Int | .mk k _ _ _ _ _ => k
def Prd.truth : Prd → Int | .mk _ k _ _ _ _ => k
def Prd.op : Prd → Int | .mk _ _ k _ _ _ => k
def Prd.a : Prd → Trm | .mk _ _ _ k _ _ => k
def Prd.b : Prd → Trm | .mk _ _ _ _ k _ => k
def Prd.parts : Prd → List Prd | .mk _ _ _ _ _ k => k
mutual
def Prd.e : Prd → AV
  | .mk k t o a b ps => .agg [.int .i64 k, .int .i64 t, .int .i64 o, .int .i64 a.kind, .int .i64 a.table, .int .i64 a.col, .bool a.v.null, .int .i64 a.v.n, .int .i64 b.kind, .int .i64 b.table, .int .i64 b.col, .bool b.v.null, .int .i64 b.v.n, .sl 14 (Prd.eL ps)]
def Prd.eL : List Prd → List AV
  | [] => []
  | p :: l => p.e :: Prd.eL l
end
theorem Prd.eL_map : ∀ l : List Prd, Prd.eL l = l.map Prd.e
  | [] => rfl
  | p :: l => by simp only [Prd.eL, List.map_cons, Prd.eL_map l]
theorem Prd.e_eq (p : Prd) : p.e = .agg [.int .i64 p.kind, .int .i64 p.truth, .int .i64 p.op, .int .i64 p.a.kind, .int .i64 p.a.table, .int .i64 p.a.col, .bool p.a.v.null, .int .i64 p.a.v.n, .int .i64 p.b.kind, .int .i64 p.b.table, .int .i64 p.b.col, .bool p.b.v.null, .int .i64 p.b.v.n, .sl 14 (p.parts.map Prd.e)] := by
  cases p; simp only [Prd.e, Prd.eL_map]; rfl
attribute [go_sem] Prd.e_eq
abbrev prdsE (l : List Prd) : AV := .sl 14 (l.map Prd.e)
theorem Prd.part_lt {p x : Prd} (h : x ∈ p.parts) : SizeOf.sizeOf x < SizeOf.sizeOf p := by
  cases p with
  | mk k t o a b ps => have := List.sizeOf_lt_of_mem (show x ∈ ps from h); simp only [Prd.mk.sizeOf_spec]; omega
theorem Prd.ind {C : Prd → Prop} (h : ∀ p : Prd, (∀ x ∈ p.parts, C x) → C p) (p : Prd) : C p :=
  h p fun x hx => Prd.ind h x
termination_by SizeOf.sizeOf p
decreasing_by exact Prd.part_lt hx
mutual
def gathF {α : Type} (g : Prd → List α) : Prd → List α
  | .mk k t o a b ps => g (.mk k t o a b ps) ++ gathL g ps
def gathL {α : Type} (g : Prd → List α) : List Prd → List α
  | [] => []
  | p :: l => gathF g p ++ gathL g l
end
theorem gathF_eq {α : Type} (g : Prd → List α) (p : Prd) : gathF g p = g p ++ gathL g p.parts := by cases p; rw [gathF]; rfl
theorem gathL_append {α : Type} (g : Prd → List α) : ∀ l m : List Prd, gathL g (l ++ m) = gathL g l ++ gathL g m
  | [], m => by simp [gathL]
  | p :: l, m => by simp [gathL, gathL_append g l m]
theorem gathL_take {α : Type} (g : Prd → List α) {l : List Prd} {k : Nat} (h : k < l.length) : gathL g (l.take (k + 1)) = gathL g (l.take k) ++ gathF g l[k] := by
  rw [List.take_succ_eq_append_getElem h, gathL_append]; simp [gathL]
theorem gathL_le {α : Type} (g : Prd → List α) (l : List Prd) (k : Nat) : (gathL g (l.take k)).length ≤ (gathL g l).length := by
  have := gathL_append g (l.take k) (l.drop k)
  rw [List.take_append_drop] at this
  rw [this, List.length_append]; omega
def Col.e (c : Int × Int) : AV := .agg [.int .i64 c.1, .int .i64 c.2]
attribute [go_sem] Col.e

set_option maxHeartbeats 4000000 in
theorem c_gatherU {f : FuncId} {cs : List AV} {g : Prd → List Int} (h : ∀ x : Prd, FC Try.prog f (x.e :: cs) (.ap 1 ((g x).map (.int .u64)) 0)) (p : Prd) (hn : (gathF g p).length ≤ 1000000) : FC Try.prog 59 [p.e, .fn f cs] (.ap 1 ((gathF g p).map (.int .u64)) 0) := by
  revert hn
  induction p using Prd.ind
  rename_i p ih
  intro hn
  refine fc_of_body (nt := 25) (rs := [.tmp 4]) (ts := [(0, _), (1, _)]) Try.func59 rfl rfl rfl rfl (by decide) (Nat.le_of_ble_eq_true rfl) ?_
  repeat' first
    | refine thenQ_n ?_
    | refine thenQ_r ?_
    | refine thenQ_e ?_
    | refine blockQ_n ?_
    | refine blockQ_r ?_
    | refine blockQ_e ?_
    | refine blockQ_o ?_ (by rfl)
    | (refine tri_seq fun K hK => ?_)
    | refine tri_skip ?_
    | refine tri_ret ?_
    | refine tri_exit ?_
    | refine tri_block ?_
    | refine tri_region ?_
    | refine sq_nil ?_
    | (apply sq_go; (case hs => (simp only [go_sem, Nat.reduceBEq, Nat.reduceBNe, Nat.reduceLT, Nat.reduceGT, Int.reduceGT, Int.reduceMul, Int.reduceAdd, Int.reduceSub, Nat.reduceAdd, Nat.reduceMul, Nat.reduceLeDiff, Nat.reduceEqDiff, Nat.reduceSub, Int.reduceNeg, Int.reduceToNat, Int.reduceLT, Int.reduceLE, Int.cast_ofNat_Int, decide_true, decide_false, Bool.and_self, reduceIte, reduceCtorEq]; with_reducible rfl)))
    | (apply sq_call (h p); (case hs => (simp only [go_sem, Nat.reduceBEq, Nat.reduceBNe, Nat.reduceLT, Nat.reduceGT, Int.reduceGT, Int.reduceMul, Int.reduceAdd, Int.reduceSub, Nat.reduceAdd, Nat.reduceMul, Nat.reduceLeDiff, Nat.reduceEqDiff, Nat.reduceSub, Int.reduceNeg, Int.reduceToNat, Int.reduceLT, Int.reduceLE, Int.cast_ofNat_Int, decide_true, decide_false, Bool.and_self, reduceIte, reduceCtorEq] <;> rfl)); (case hr => (simp only [go_sem, Nat.reduceBEq, Nat.reduceBNe, Nat.reduceLT, Nat.reduceGT, Int.reduceGT, Int.reduceMul, Int.reduceAdd, Int.reduceSub, Nat.reduceAdd, Nat.reduceMul, Nat.reduceLeDiff, Nat.reduceEqDiff, Nat.reduceSub, Int.reduceNeg, Int.reduceToNat, Int.reduceLT, Int.reduceLE, Int.cast_ofNat_Int, decide_true, decide_false, Bool.and_self, reduceIte, reduceCtorEq]; with_reducible rfl)))
    | (apply sq_no; (case hs => (simp only [go_sem, Nat.reduceBEq, Nat.reduceBNe, Nat.reduceLT, Nat.reduceGT, Int.reduceGT, Int.reduceMul, Int.reduceAdd, Int.reduceSub, Nat.reduceAdd, Nat.reduceMul, Nat.reduceLeDiff, Nat.reduceEqDiff, Nat.reduceSub, Int.reduceNeg, Int.reduceToNat, Int.reduceLT, Int.reduceLE, Int.cast_ofNat_Int, decide_true, decide_false, Bool.and_self, reduceIte, reduceCtorEq]; with_reducible rfl)))
    | (apply sq_if; (case hg => (simp only [go_sem, Nat.reduceBEq, Nat.reduceBNe, Nat.reduceLT, Nat.reduceGT, Int.reduceGT, Int.reduceMul, Int.reduceAdd, Int.reduceSub, Nat.reduceAdd, Nat.reduceMul, Nat.reduceLeDiff, Nat.reduceEqDiff, Nat.reduceSub, Int.reduceNeg, Int.reduceToNat, Int.reduceLT, Int.reduceLE, Int.cast_ofNat_Int, decide_true, decide_false, Bool.and_self, reduceIte, reduceCtorEq]; with_reducible rfl)); all_goals (intro hb; (try simp only [reduceCtorEq] at hb); (try simp only [hb])))
    | (apply tri_ci; (case hc => (simp only [go_sem, Nat.reduceBEq, Nat.reduceBNe, Nat.reduceLT, Nat.reduceGT, Int.reduceGT, Int.reduceMul, Int.reduceAdd, Int.reduceSub, Nat.reduceAdd, Nat.reduceMul, Nat.reduceLeDiff, Nat.reduceEqDiff, Nat.reduceSub, Int.reduceNeg, Int.reduceToNat, Int.reduceLT, Int.reduceLE, Int.cast_ofNat_Int, decide_true, decide_false, Bool.and_self, reduceIte, reduceCtorEq]; with_reducible rfl)); all_goals (intro hb; (try simp only [reduceCtorEq] at hb); (try simp only [hb])))
    | (apply post_r; (case h1 => (simp only [go_sem, Nat.reduceBEq, Nat.reduceBNe, Nat.reduceLT, Nat.reduceGT, Int.reduceGT, Int.reduceMul, Int.reduceAdd, Int.reduceSub, Nat.reduceAdd, Nat.reduceMul, Nat.reduceLeDiff, Nat.reduceEqDiff, Nat.reduceSub, Int.reduceNeg, Int.reduceToNat, Int.reduceLT, Int.reduceLE, Int.cast_ofNat_Int, decide_true, decide_false, Bool.and_self, reduceIte, reduceCtorEq]; with_reducible rfl)); (case he => simp))
    | (apply post_a; (case h1 => (simp only [go_sem, Nat.reduceBEq, Nat.reduceBNe, Nat.reduceLT, Nat.reduceGT, Int.reduceGT, Int.reduceMul, Int.reduceAdd, Int.reduceSub, Nat.reduceAdd, Nat.reduceMul, Nat.reduceLeDiff, Nat.reduceEqDiff, Nat.reduceSub, Int.reduceNeg, Int.reduceToNat, Int.reduceLT, Int.reduceLE, Int.cast_ofNat_Int, decide_true, decide_false, Bool.and_self, reduceIte, reduceCtorEq]; with_reducible rfl)); (case he => simp))
    | (refine hK _ ?_; clear hK)
    | (clear hK; refine hK _ ?_; clear hK)
    | (clear hK; clear hK; refine hK _ ?_; clear hK)
    | (clear hK; clear hK; clear hK; refine hK _ ?_; clear hK)
    | (clear hK; clear hK; clear hK; clear hK; refine hK _ ?_; clear hK)
    | fail
  refine tri_len 12 (sz := 14) (xs := p.parts.map Prd.e) rfl fun hm => ?_
  rw [List.length_map] at hm
  rw [gathF_eq] at hn
  refine tri_for (fun q : Nat × Nat => ⟨25, [(14, .v (.int .i64 (q.1 : Int))), (13, .v (.int .i64 (p.parts.length : Int))), (12, .v (prdsE p.parts)), (5, .ap 1 ((g p ++ gathL g (p.parts.take q.1)).map (.int .u64)) q.2), (2, .loc 2 0), (1, .v (.fn f cs))], [(2, [.v (.int .i64 p.kind), .v (.int .i64 p.truth), .v (.int .i64 p.op), .v (.int .i64 p.a.kind), .v (.int .i64 p.a.table), .v (.int .i64 p.a.col), .v (.bool p.a.v.null), .v (.int .i64 p.a.v.n), .v (.int .i64 p.b.kind), .v (.int .i64 p.b.table), .v (.int .i64 p.b.col), .v (.bool p.b.v.null), .v (.int .i64 p.b.v.n), .v (prdsE p.parts)])], [q.2]⟩)
    (fun q => q.1 ≤ p.parts.length ∧ (q.2 = 10 ∨ q.2 = 22)) (fun q => p.parts.length - q.1) (0, 10) ?_ ⟨Nat.zero_le _, .inl rfl⟩ ?_
  · exact le_of rfl (by simp [LeT, get, gathL]) (by simp [LeT, get]) (by simp [LeK, memK])
  rintro ⟨k, s⟩ ⟨hk, hs⟩
  simp only at hk hs
  by_cases hlt : k < p.parts.length
  · have hd : decide ((k : Int) < ((p.parts.length : Nat) : Int)) = true := by simpa using hlt
    have hw := wrap_succ hlt hm
    have e1 := gathL_take g hlt
    have e2 := gathL_le g p.parts (k + 1)
    rw [e1] at e2
    simp only [List.length_append] at e2 hn
    have b1 : ((g p ++ gathL g (p.parts.take k)).length + (gathF g p.parts[k]).length) * 8 ≤ 140737488355328 := by rw [List.length_append]; omega
    have b2 : (g p ++ gathL g (p.parts.take k)).length + (gathF g p.parts[k]).length ≤ 9223372036854775807 := by rw [List.length_append]; omega
    have ihk := ih p.parts[k] (List.getElem_mem hlt) (by omega)
    rcases hs with rfl | rfl
    all_goals
      repeat' first
        | refine thenQ_n ?_
        | refine thenQ_r ?_
        | refine thenQ_e ?_
        | refine blockQ_n ?_
        | refine blockQ_r ?_
        | refine blockQ_e ?_
        | refine blockQ_o ?_ (by rfl)
        | (refine tri_seq fun K hK => ?_)
        | refine tri_skip ?_
        | refine tri_ret ?_
        | refine tri_exit ?_
        | refine tri_block ?_
        | refine tri_region ?_
        | refine sq_nil ?_
        | (apply sq_go; (case hs => (simp only [go_sem, Nat.reduceBEq, Nat.reduceBNe, Nat.reduceLT, Nat.reduceGT, Int.reduceGT, Int.reduceMul, Int.reduceAdd, Int.reduceSub, Nat.reduceAdd, Nat.reduceMul, Nat.reduceLeDiff, Nat.reduceEqDiff, Nat.reduceSub, Int.reduceNeg, Int.reduceToNat, Int.reduceLT, Int.reduceLE, Int.cast_ofNat_Int, decide_true, decide_false, Bool.and_self, reduceIte, reduceCtorEq, List.length_map, hd, hw, b1, b2, ixA_map hlt]; with_reducible rfl)))
        | (apply sq_call (ihk); (case hs => (simp only [go_sem, Nat.reduceBEq, Nat.reduceBNe, Nat.reduceLT, Nat.reduceGT, Int.reduceGT, Int.reduceMul, Int.reduceAdd, Int.reduceSub, Nat.reduceAdd, Nat.reduceMul, Nat.reduceLeDiff, Nat.reduceEqDiff, Nat.reduceSub, Int.reduceNeg, Int.reduceToNat, Int.reduceLT, Int.reduceLE, Int.cast_ofNat_Int, decide_true, decide_false, Bool.and_self, reduceIte, reduceCtorEq, List.length_map, hd, hw, b1, b2, ixA_map hlt] <;> rfl)); (case hr => (simp only [go_sem, Nat.reduceBEq, Nat.reduceBNe, Nat.reduceLT, Nat.reduceGT, Int.reduceGT, Int.reduceMul, Int.reduceAdd, Int.reduceSub, Nat.reduceAdd, Nat.reduceMul, Nat.reduceLeDiff, Nat.reduceEqDiff, Nat.reduceSub, Int.reduceNeg, Int.reduceToNat, Int.reduceLT, Int.reduceLE, Int.cast_ofNat_Int, decide_true, decide_false, Bool.and_self, reduceIte, reduceCtorEq, List.length_map, hd, hw, b1, b2, ixA_map hlt]; with_reducible rfl)))
        | (apply sq_no; (case hs => (simp only [go_sem, Nat.reduceBEq, Nat.reduceBNe, Nat.reduceLT, Nat.reduceGT, Int.reduceGT, Int.reduceMul, Int.reduceAdd, Int.reduceSub, Nat.reduceAdd, Nat.reduceMul, Nat.reduceLeDiff, Nat.reduceEqDiff, Nat.reduceSub, Int.reduceNeg, Int.reduceToNat, Int.reduceLT, Int.reduceLE, Int.cast_ofNat_Int, decide_true, decide_false, Bool.and_self, reduceIte, reduceCtorEq, List.length_map, hd, hw, b1, b2, ixA_map hlt]; with_reducible rfl)))
        | (apply sq_if; (case hg => (simp only [go_sem, Nat.reduceBEq, Nat.reduceBNe, Nat.reduceLT, Nat.reduceGT, Int.reduceGT, Int.reduceMul, Int.reduceAdd, Int.reduceSub, Nat.reduceAdd, Nat.reduceMul, Nat.reduceLeDiff, Nat.reduceEqDiff, Nat.reduceSub, Int.reduceNeg, Int.reduceToNat, Int.reduceLT, Int.reduceLE, Int.cast_ofNat_Int, decide_true, decide_false, Bool.and_self, reduceIte, reduceCtorEq, List.length_map, hd, hw, b1, b2, ixA_map hlt]; with_reducible rfl)); all_goals (intro hb; (try simp only [reduceCtorEq] at hb); (try simp only [hb])))
        | (apply tri_ci; (case hc => (simp only [go_sem, Nat.reduceBEq, Nat.reduceBNe, Nat.reduceLT, Nat.reduceGT, Int.reduceGT, Int.reduceMul, Int.reduceAdd, Int.reduceSub, Nat.reduceAdd, Nat.reduceMul, Nat.reduceLeDiff, Nat.reduceEqDiff, Nat.reduceSub, Int.reduceNeg, Int.reduceToNat, Int.reduceLT, Int.reduceLE, Int.cast_ofNat_Int, decide_true, decide_false, Bool.and_self, reduceIte, reduceCtorEq, List.length_map, hd, hw, b1, b2, ixA_map hlt]; with_reducible rfl)); all_goals (intro hb; (try simp only [reduceCtorEq] at hb); (try simp only [hb])))
        | (apply post_r; (case h1 => (simp only [go_sem, Nat.reduceBEq, Nat.reduceBNe, Nat.reduceLT, Nat.reduceGT, Int.reduceGT, Int.reduceMul, Int.reduceAdd, Int.reduceSub, Nat.reduceAdd, Nat.reduceMul, Nat.reduceLeDiff, Nat.reduceEqDiff, Nat.reduceSub, Int.reduceNeg, Int.reduceToNat, Int.reduceLT, Int.reduceLE, Int.cast_ofNat_Int, decide_true, decide_false, Bool.and_self, reduceIte, reduceCtorEq, List.length_map, hd, hw, b1, b2, ixA_map hlt]; with_reducible rfl)); (case he => simp))
        | (apply post_a; (case h1 => (simp only [go_sem, Nat.reduceBEq, Nat.reduceBNe, Nat.reduceLT, Nat.reduceGT, Int.reduceGT, Int.reduceMul, Int.reduceAdd, Int.reduceSub, Nat.reduceAdd, Nat.reduceMul, Nat.reduceLeDiff, Nat.reduceEqDiff, Nat.reduceSub, Int.reduceNeg, Int.reduceToNat, Int.reduceLT, Int.reduceLE, Int.cast_ofNat_Int, decide_true, decide_false, Bool.and_self, reduceIte, reduceCtorEq, List.length_map, hd, hw, b1, b2, ixA_map hlt]; with_reducible rfl)); (case he => simp))
        | (refine hK _ ?_; clear hK)
        | (clear hK; refine hK _ ?_; clear hK)
        | (clear hK; clear hK; refine hK _ ?_; clear hK)
        | (clear hK; clear hK; clear hK; refine hK _ ?_; clear hK)
        | (clear hK; clear hK; clear hK; clear hK; refine hK _ ?_; clear hK)
        | fail
    all_goals (repeat (clear hK))
    all_goals
      refine ⟨(k + 1, 22), ⟨hlt, .inr rfl⟩, by simp only; omega, le_of rfl ?_ (by simp [LeT, get]) (by simp [LeK, memK])⟩
      simp only [go_sem, Nat.reduceBEq]
      rw [e1]
      simp
  · have hd : decide ((k : Int) < ((p.parts.length : Nat) : Int)) = false := by simpa using hlt
    obtain rfl : k = p.parts.length := by omega
    rcases hs with rfl | rfl
    all_goals
      repeat' first
        | refine thenQ_n ?_
        | refine thenQ_r ?_
        | refine thenQ_e ?_
        | refine blockQ_n ?_
        | refine blockQ_r ?_
        | refine blockQ_e ?_
        | refine blockQ_o ?_ (by rfl)
        | (refine tri_seq fun K hK => ?_)
        | refine tri_skip ?_
        | refine tri_ret ?_
        | refine tri_exit ?_
        | refine tri_block ?_
        | refine tri_region ?_
        | refine sq_nil ?_
        | (apply sq_go; (case hs => (simp only [go_sem, Nat.reduceBEq, Nat.reduceBNe, Nat.reduceLT, Nat.reduceGT, Int.reduceGT, Int.reduceMul, Int.reduceAdd, Int.reduceSub, Nat.reduceAdd, Nat.reduceMul, Nat.reduceLeDiff, Nat.reduceEqDiff, Nat.reduceSub, Int.reduceNeg, Int.reduceToNat, Int.reduceLT, Int.reduceLE, Int.cast_ofNat_Int, decide_true, decide_false, Bool.and_self, reduceIte, reduceCtorEq, List.length_map, hd]; with_reducible rfl)))
        | (apply sq_no; (case hs => (simp only [go_sem, Nat.reduceBEq, Nat.reduceBNe, Nat.reduceLT, Nat.reduceGT, Int.reduceGT, Int.reduceMul, Int.reduceAdd, Int.reduceSub, Nat.reduceAdd, Nat.reduceMul, Nat.reduceLeDiff, Nat.reduceEqDiff, Nat.reduceSub, Int.reduceNeg, Int.reduceToNat, Int.reduceLT, Int.reduceLE, Int.cast_ofNat_Int, decide_true, decide_false, Bool.and_self, reduceIte, reduceCtorEq, List.length_map, hd]; with_reducible rfl)))
        | (apply sq_if; (case hg => (simp only [go_sem, Nat.reduceBEq, Nat.reduceBNe, Nat.reduceLT, Nat.reduceGT, Int.reduceGT, Int.reduceMul, Int.reduceAdd, Int.reduceSub, Nat.reduceAdd, Nat.reduceMul, Nat.reduceLeDiff, Nat.reduceEqDiff, Nat.reduceSub, Int.reduceNeg, Int.reduceToNat, Int.reduceLT, Int.reduceLE, Int.cast_ofNat_Int, decide_true, decide_false, Bool.and_self, reduceIte, reduceCtorEq, List.length_map, hd]; with_reducible rfl)); all_goals (intro hb; (try simp only [reduceCtorEq] at hb); (try simp only [hb])))
        | (apply tri_ci; (case hc => (simp only [go_sem, Nat.reduceBEq, Nat.reduceBNe, Nat.reduceLT, Nat.reduceGT, Int.reduceGT, Int.reduceMul, Int.reduceAdd, Int.reduceSub, Nat.reduceAdd, Nat.reduceMul, Nat.reduceLeDiff, Nat.reduceEqDiff, Nat.reduceSub, Int.reduceNeg, Int.reduceToNat, Int.reduceLT, Int.reduceLE, Int.cast_ofNat_Int, decide_true, decide_false, Bool.and_self, reduceIte, reduceCtorEq, List.length_map, hd]; with_reducible rfl)); all_goals (intro hb; (try simp only [reduceCtorEq] at hb); (try simp only [hb])))
        | (apply post_r; (case h1 => (simp only [go_sem, Nat.reduceBEq, Nat.reduceBNe, Nat.reduceLT, Nat.reduceGT, Int.reduceGT, Int.reduceMul, Int.reduceAdd, Int.reduceSub, Nat.reduceAdd, Nat.reduceMul, Nat.reduceLeDiff, Nat.reduceEqDiff, Nat.reduceSub, Int.reduceNeg, Int.reduceToNat, Int.reduceLT, Int.reduceLE, Int.cast_ofNat_Int, decide_true, decide_false, Bool.and_self, reduceIte, reduceCtorEq, List.length_map, hd]; with_reducible rfl)); (case he => simp))
        | (apply post_a; (case h1 => (simp only [go_sem, Nat.reduceBEq, Nat.reduceBNe, Nat.reduceLT, Nat.reduceGT, Int.reduceGT, Int.reduceMul, Int.reduceAdd, Int.reduceSub, Nat.reduceAdd, Nat.reduceMul, Nat.reduceLeDiff, Nat.reduceEqDiff, Nat.reduceSub, Int.reduceNeg, Int.reduceToNat, Int.reduceLT, Int.reduceLE, Int.cast_ofNat_Int, decide_true, decide_false, Bool.and_self, reduceIte, reduceCtorEq, List.length_map, hd]; with_reducible rfl)); (case he => simp))
        | (refine hK _ ?_; clear hK)
        | (clear hK; refine hK _ ?_; clear hK)
        | (clear hK; clear hK; refine hK _ ?_; clear hK)
        | (clear hK; clear hK; clear hK; refine hK _ ?_; clear hK)
        | (clear hK; clear hK; clear hK; clear hK; refine hK _ ?_; clear hK)
        | fail
    all_goals (repeat (clear hK))
    all_goals simp [gathF_eq]

end Go.Proofs.Ytekdlkjonihglaa.AL
