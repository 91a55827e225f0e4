/- Contracts: a tuple's row, by both. -/
import Derived.Test.YtekdlkjonihglaaYM1
import Derived.Test.YtekdlkjonihglaaYF4
namespace Go.Proofs.Ytekdlkjonihglaa.AL
open Go
set_option linter.unusedVariables false
set_option linter.unusedSimpArgs false
set_option maxRecDepth 4000
def nullV : Val := ⟨true, 0⟩
def rowN (N : Nat) (row : List Val) : List Val := row.take N ++ List.replicate (N - row.length) nullV
theorem rowN_len (N : Nat) (row : List Val) : (rowN N row).length = N := by
  unfold rowN; rw [List.length_append, List.length_take, List.length_replicate]; omega
theorem flat_nulls : ∀ m : Nat, flat ((List.replicate m nullV).map Val.e) = zerosA nulC m
  | 0 => rfl
  | m + 1 => by
    have ih := flat_nulls m
    rw [List.replicate_succ, List.map_cons, zerosA, ← ih]
    simp only [flat, List.flatMap_cons]; rfl
theorem zerosA_drop : ∀ (N m : Nat), m ≤ N → (zerosA nulC N).drop (m * 2) = zerosA nulC (N - m)
  | N, 0, _ => by simp
  | N + 1, m + 1, h => by
    rw [zerosA, show (m + 1) * 2 = m * 2 + 2 by omega, show N + 1 - (m + 1) = N - m by omega, ← zerosA_drop N m (by omega)]
    rfl
  | 0, m + 1, h => by omega
theorem nul_copy (N : Nat) (row : List Val) : ((zerosA nulC N).map TV.v).take 0 ++ (flat ((row.map Val.e).take N)).map TV.v ++ ((zerosA nulC N).map TV.v).drop (0 + (min (row.map Val.e).length N) * 2) = (flat ((rowN N row).map Val.e)).map TV.v := by
  rw [List.take_zero, List.nil_append, Nat.zero_add, ← List.map_drop, zerosA_drop N _ (Nat.min_le_right _ _), ← List.map_append, List.length_map]
  congr 1
  unfold rowN
  rw [List.map_append, flat_append, flat_nulls, List.map_take]
  congr 2
  omega
theorem cells2 (x : Val) : x.e.cells.length = 2 := rfl
theorem grp_vals : ∀ l : List Val, grp 2 l.length (flat (l.map Val.e)) = l.map Val.e
  | [] => rfl
  | x :: l => by
    have ih := grp_vals l
    have e : flat ((x :: l).map Val.e) = x.e.cells ++ flat (l.map Val.e) := by simp [flat]
    rw [e, List.length_cons]
    show hdA 2 (x.e.cells ++ flat (l.map Val.e)) :: grp 2 l.length ((x.e.cells ++ flat (l.map Val.e)).drop 2) = _
    rw [show (x.e.cells ++ flat (l.map Val.e)).drop 2 = flat (l.map Val.e) from rfl, ih]
    rfl
theorem flat_vals (l : List Val) : (flat (l.map Val.e)).length = l.length * 2 := by
  rw [flat_length (sz := 2) _ (fun x hx => by obtain ⟨y, _, rfl⟩ := List.mem_map.1 hx; rfl), List.length_map]
def colsN (cols : List Int) (i : Nat) : Nat := ((cols[i]?).getD 0).toNat
theorem colsN_in {cols : List Int} {i : Nat} (h : i < cols.length) : colsN cols i = cols[i].toNat := by unfold colsN; simp [h]
def gF (t : Tup) (cols : List Int) (i : Nat) : List Val := rowN (colsN cols i) (rowF t (i : Int))
def flatU (t : Tup) (cols : List Int) (L : List Nat) (k : Nat) : List Val := (L.take k).flatMap (gF t cols)
theorem flatU_succ {t : Tup} {cols : List Int} {L : List Nat} {k : Nat} (h : k < L.length) : flatU t cols L (k + 1) = flatU t cols L k ++ gF t cols L[k] := by
  unfold flatU; rw [List.take_succ_eq_append_getElem h, List.flatMap_append]; simp
theorem colsN_le {cols : List Int} (h : ∀ x ∈ cols, x ≤ 1000) (i : Nat) : colsN cols i ≤ 1000 := by
  unfold colsN
  cases hi : cols[i]? with
  | none => simp
  | some x => have := h x (List.mem_of_getElem? hi); simp only [Option.getD_some]; omega
theorem flatU_len {t : Tup} {cols : List Int} {L : List Nat} (h : ∀ x ∈ cols, x ≤ 1000) : ∀ k, k ≤ L.length → (flatU t cols L k).length ≤ 1000 * k
  | 0, _ => by simp [flatU]
  | k + 1, hk => by
    have ih := flatU_len (t := t) (L := L) h k (by omega)
    have h1 := colsN_le h L[k]
    rw [flatU_succ (by omega), List.length_append]
    unfold gF at *
    rw [rowN_len]; omega
theorem tw_take {α : Type} {p : α → Bool} : ∀ (L : List α) (k : Nat), (∀ j (h : j < L.length), j < k → p L[j] = true) → (k = L.length ∨ ∃ h : k < L.length, p L[k] = false) → L.takeWhile p = L.take k
  | [], k, _, _ => by simp
  | x :: L, 0, _, h => by
    rcases h with h | ⟨_, h⟩
    · simp at h
    · simp only [List.getElem_cons_zero] at h
      simp [List.takeWhile_cons, h]
  | x :: L, k + 1, h1, h => by
    have h0 := h1 0 (by simp) (by omega)
    simp only [List.getElem_cons_zero] at h0
    rw [List.takeWhile_cons, h0, if_pos rfl, List.take_succ_cons, tw_take L k (fun j hj hjk => by have := h1 (j + 1) (by simpa using hj) (by omega); simpa only [List.getElem_cons_succ] using this) ?_]
    rcases h with h | ⟨hl, h⟩
    · exact .inl (by simpa using h)
    · exact .inr ⟨by simpa using hl, by simpa only [List.getElem_cons_succ] using h⟩
def flatM (t : Tup) (s : Nat) (cols : List Int) : List Val := ((membs s).takeWhile fun i => decide (i < cols.length)).flatMap (gF t cols)
theorem tri_frzS {P : Program} {ro : Option Nat} {n : Nat} {σ σ' : AS} {Q : Exit → AS → Prop} {c : Code} (s : Nat) {cells : List AV} (hs : Nat.blt s 1000000 = true) (hb : get s σ.b = some (cells.map .v)) (hf : σ.frz s cells = σ') (h : Tri P ro n c σ' Q) : Tri P ro n c σ Q := by
  subst hf; exact tri_frz s (by simpa [Nat.blt_eq] using hs) hb (datL_v cells) h
abbrev intsI (l : List Int) : AV := .sl 1 (l.map (.int .i64))

set_option maxHeartbeats 4000000 in
theorem c_flat (t : Tup) (s : Nat) (cols : List Int) (hs : s < 18446744073709551616) (ht : LtT t) (hc : ∀ x ∈ cols, x ≤ 1000) : FC Try.prog 27 [rowsE t, .int .u64 s, intsI cols] (.v (rowE (flatM t s cols))) := by
  have kl := c_setList s hs
  have hml := membs_len s
  generalize hres : flatM t s cols = res
  unfold flatM at hres
  generalize membs s = L at *
  refine fc_of_body (nt := 37) (rs := [.tmp 6]) (ts := [(0, _), (1, _), (2, _)]) Try.func27 rfl rfl rfl rfl (by decide) (Nat.le_of_ble_eq_true rfl) ?_
  repeat' first
   | with_reducible first | refine thenQ_n ?_ | refine thenQ_r ?_ | refine thenQ_e ?_ | refine blockQ_n ?_ | refine blockQ_r ?_ | refine blockQ_e ?_ | refine tri_seq fun K hK => ?_ | refine tri_skip ?_ | refine tri_ret ?_ | refine tri_exit ?_ | refine tri_block ?_ | refine tri_region ?_ | refine sq_nil ?_
   | refine blockQ_o ?_ (by rfl)
   | ((with_reducible apply s_w); (case hw => exact xWT); first | ((with_reducible apply sg_q); (case hd => exact rfl); (case hn => exact rfl); (case he => (first | exact xE0 | ((with_reducible apply e_bi); (case hx => exact xDK); (case hy => exact xDK); (case hs => exact rfl); (case h => (simp only [binI, Int.reduceAdd, Int.reduceSub, Int.reduceMul, Int.reduceLT, Int.reduceLE, Int.reduceGT, Int.reduceEq, Int.reduceNeg, decide_true, decide_false, Bool.not_true, Bool.not_false, List.length_map]; with_reducible rfl))) | ((with_reducible apply e_ix); (case hx => exact xDK); (case hi => exact xDK); (case ht => exact xTY); (case hz => exact rfl); (case he => (simp only [List.length_map]; with_reducible rfl)); (case hc => exact xGS)) | ((with_reducible apply e_ln); (case hx => exact xDK); (case ht => exact xTY); (case hn => (first | (simp only [List.length_map, List.length_cons, List.length_nil, List.length_map]; with_reducible rfl) | rfl))) | ((with_reducible apply e_nt); (case hx => exact xDK); (case h => (first | (simp only [Bool.not_true, Bool.not_false, List.length_map]; with_reducible rfl) | rfl)))))) | (((with_reducible apply sg_k); (case ha => exact xDA); (case hfc => ((try simp only [List.length_map]); first | exact kl )); (case hr => exact xRT))) | ((with_reducible apply sg_kv); (case hv => exact rfl); (case ha => exact xDA); (case hl => exact xLs); (case hfc => ((try simp only [List.length_map]); first | exact kl )); (case hr => exact xRT)) | (((with_reducible apply sg_bx); (case hn => exact rfl); (case hv => exact xLT); (case hc => exact xGS); (case hk => exact rfl))) | (((with_reducible apply sg_al); (case hn => exact rfl); (case hz => exact xTY); (case hc => exact xGS); (case hk => exact rfl))) | (((with_reducible apply sg_st); (case hx => exact xLK); (case hv => exact xLT); (case hc => exact xGS); (case hb => exact rfl); (case ht => exact xTY); (case hz => exact rfl); (case hs => exact xGS))) | (((with_reducible apply sg_e); (case hc => (intros; simp)); (case hs => (simp only [go_sem, Nat.reduceBEq, Nat.reduceBNe, Nat.reduceLT, Nat.reduceGT, Int.reduceGT, Int.reduceMul, Int.reduceAdd, Int.reduceSub, Nat.reduceAdd, Nat.reduceMul, Nat.reduceLeDiff, Nat.reduceEqDiff, Nat.reduceSub, Int.reduceNeg, Int.reduceToNat, Int.reduceLT, Int.reduceLE, Int.reduceEq, Int.cast_ofNat_Int, decide_true, decide_false, Bool.not_true, Bool.not_false, Bool.and_self, reduceIte, reduceCtorEq, List.length_map]; with_reducible rfl)))))
   | ((with_reducible apply s_n); (case hw => exact xWF); (case hd => exact rfl); (case hn => exact rfl))
   | ((with_reducible apply qs_ct); (case hc => exact xLK); (case he => exact xHB))
   | ((with_reducible apply qs_cf); (case hc => exact xLK); (case he => exact xHB))
   | ((with_reducible apply qs_cond); (case hc => exact xLK); (case hu => exact xUK); all_goals (intro hb))
   | ((with_reducible apply s_if); (case hg => exact rfl); (case hd => exact rfl); (case he => exact rfl); (case hu => exact xUK); all_goals (intro hb))
   | ((first | apply post_r | apply post_a); (case h1 => first | exact r1_t rfl rfl | exact xR); (case he => simp))
   | (refine hK _ ?_; clear hK)
   | (clear hK; refine hK _ ?_; clear hK)
   | (clear hK; clear hK; refine hK _ ?_; clear hK)
   | (clear hK; clear hK; clear hK; refine hK _ ?_; clear hK)
   | (clear hK; clear hK; clear hK; clear hK; refine hK _ ?_; clear hK)
   | fail
  refine tri_for (fun q : Nat × Nat => ⟨37, [(14, .v (.int .i64 (q.1 : Int))), (13, .v (.int .i64 (L.length : Int))), (12, .v (natsE L)), (7, .ap 2 ((flatU t cols L q.1).map Val.e) q.2), (2, .v (intsI cols)), (0, .v (rowsE t))], [], bif q.2 == 999999 then [] else [q.2]⟩)
    (fun q => (q.1 ≤ L.length ∧ ∀ j (h : j < L.length), j < q.1 → decide (L[j] < cols.length) = true) ∧ (q.2 = 999999 ∨ q.2 = 34)) (fun q => L.length - q.1) (0, 999999) ?_ ⟨⟨Nat.zero_le _, fun j _ h => absurd h (by omega)⟩, .inl rfl⟩ ?_
  · exact le_of rfl (by simp [LeT, get, flatU]) (by simp [LeT, get]) (by simp [LeK, memK])
  rintro ⟨k, q⟩ ⟨⟨hk, hpre⟩, hq⟩
  simp only at hk hq hpre
  by_cases hlt : k < L.length
  case neg =>
    have hd : decide ((k : Int) < (L.length : Int)) = false := by simpa using hlt
    obtain rfl : k = L.length := by omega
    rw [tw_take L L.length hpre (.inl rfl)] at hres
    rcases hq with rfl | rfl
    all_goals
      repeat' first
       | with_reducible first | refine thenQ_n ?_ | refine thenQ_r ?_ | refine thenQ_e ?_ | refine blockQ_n ?_ | refine blockQ_r ?_ | refine blockQ_e ?_ | refine tri_seq fun K hK => ?_ | refine tri_skip ?_ | refine tri_ret ?_ | refine tri_exit ?_ | refine tri_block ?_ | refine tri_region ?_ | refine sq_nil ?_
       | refine blockQ_o ?_ (by rfl)
       | ((with_reducible apply s_w); (case hw => exact xWT); first | ((with_reducible apply sg_q); (case hd => exact rfl); (case hn => exact rfl); (case he => (first | exact xE0 | ((with_reducible apply e_bi); (case hx => exact xDK); (case hy => exact xDK); (case hs => exact rfl); (case h => (simp only [binI, Int.reduceAdd, Int.reduceSub, Int.reduceMul, Int.reduceLT, Int.reduceLE, Int.reduceGT, Int.reduceEq, Int.reduceNeg, decide_true, decide_false, Bool.not_true, Bool.not_false, List.length_map, hd]; with_reducible rfl))) | ((with_reducible apply e_ix); (case hx => exact xDK); (case hi => exact xDK); (case ht => exact xTY); (case hz => exact rfl); (case he => (simp only [List.length_map, hd]; with_reducible rfl)); (case hc => exact xGS)) | ((with_reducible apply e_ln); (case hx => exact xDK); (case ht => exact xTY); (case hn => (first | (simp only [List.length_map, List.length_cons, List.length_nil, List.length_map, hd]; with_reducible rfl) | rfl))) | ((with_reducible apply e_nt); (case hx => exact xDK); (case h => (first | (simp only [Bool.not_true, Bool.not_false, List.length_map, hd]; with_reducible rfl) | rfl)))))) | (((with_reducible apply sg_bx); (case hn => exact rfl); (case hv => exact xLT); (case hc => exact xGS); (case hk => exact rfl))) | (((with_reducible apply sg_al); (case hn => exact rfl); (case hz => exact xTY); (case hc => exact xGS); (case hk => exact rfl))) | (((with_reducible apply sg_st); (case hx => exact xLK); (case hv => exact xLT); (case hc => exact xGS); (case hb => exact rfl); (case ht => exact xTY); (case hz => exact rfl); (case hs => exact xGS))) | (((with_reducible apply sg_e); (case hc => (intros; simp)); (case hs => (simp only [go_sem, Nat.reduceBEq, Nat.reduceBNe, Nat.reduceLT, Nat.reduceGT, Int.reduceGT, Int.reduceMul, Int.reduceAdd, Int.reduceSub, Nat.reduceAdd, Nat.reduceMul, Nat.reduceLeDiff, Nat.reduceEqDiff, Nat.reduceSub, Int.reduceNeg, Int.reduceToNat, Int.reduceLT, Int.reduceLE, Int.reduceEq, Int.cast_ofNat_Int, decide_true, decide_false, Bool.not_true, Bool.not_false, Bool.and_self, reduceIte, reduceCtorEq, List.length_map, hd]; with_reducible rfl)))))
       | ((with_reducible apply s_n); (case hw => exact xWF); (case hd => exact rfl); (case hn => exact rfl))
       | ((with_reducible apply qs_ct); (case hc => exact xLK); (case he => exact xHB))
       | ((with_reducible apply qs_cf); (case hc => exact xLK); (case he => exact xHB))
       | ((with_reducible apply qs_cond); (case hc => exact xLK); (case hu => exact xUK); all_goals (intro hb))
       | ((with_reducible apply s_if); (case hg => exact rfl); (case hd => exact rfl); (case he => exact rfl); (case hu => exact xUK); all_goals (intro hb))
       | ((first | apply post_r | apply post_a); (case h1 => first | exact r1_t rfl rfl | exact xR); (case he => simp))
       | (refine hK _ ?_; clear hK)
       | (clear hK; refine hK _ ?_; clear hK)
       | (clear hK; clear hK; refine hK _ ?_; clear hK)
       | (clear hK; clear hK; clear hK; refine hK _ ?_; clear hK)
       | (clear hK; clear hK; clear hK; clear hK; refine hK _ ?_; clear hK)
       | fail
    all_goals (repeat (clear hK))
    all_goals (subst hres; rfl)
  have hd : decide ((k : Int) < (L.length : Int)) = true := by simpa using hlt
  have hw : IntKind.i64.wrap ((k : Int) + 1) = ((k + 1 : Nat) : Int) := by rw [IntWalk.i64_in _ (by omega)]; rfl
  have hix := ixA_map (f := fun (i : Nat) => AV.int .i64 (i : Int)) hlt
  by_cases hin : L[k] < cols.length
  case neg =>
    have di : decide ((cols.length : Int) ≤ (L[k] : Int)) = true := by simp; omega
    rw [tw_take L k hpre (.inr ⟨hlt, by simpa using hin⟩)] at hres
    rcases hq with rfl | rfl
    all_goals
      repeat' first
       | with_reducible first | refine thenQ_n ?_ | refine thenQ_r ?_ | refine thenQ_e ?_ | refine blockQ_n ?_ | refine blockQ_r ?_ | refine blockQ_e ?_ | refine tri_seq fun K hK => ?_ | refine tri_skip ?_ | refine tri_ret ?_ | refine tri_exit ?_ | refine tri_block ?_ | refine tri_region ?_ | refine sq_nil ?_
       | refine blockQ_o ?_ (by rfl)
       | ((with_reducible apply s_w); (case hw => exact xWT); first | ((with_reducible apply sg_q); (case hd => exact rfl); (case hn => exact rfl); (case he => (first | exact xE0 | ((with_reducible apply e_bi); (case hx => exact xDK); (case hy => exact xDK); (case hs => exact rfl); (case h => (simp only [binI, Int.reduceAdd, Int.reduceSub, Int.reduceMul, Int.reduceLT, Int.reduceLE, Int.reduceGT, Int.reduceEq, Int.reduceNeg, decide_true, decide_false, Bool.not_true, Bool.not_false, List.length_map, hd, di, hix]; with_reducible rfl))) | ((with_reducible apply e_ix); (case hx => exact xDK); (case hi => exact xDK); (case ht => exact xTY); (case hz => exact rfl); (case he => (simp only [List.length_map, hd, di, hix]; with_reducible rfl)); (case hc => exact xGS)) | ((with_reducible apply e_ln); (case hx => exact xDK); (case ht => exact xTY); (case hn => (first | (simp only [List.length_map, List.length_cons, List.length_nil, List.length_map, hd, di, hix]; with_reducible rfl) | rfl))) | ((with_reducible apply e_nt); (case hx => exact xDK); (case h => (first | (simp only [Bool.not_true, Bool.not_false, List.length_map, hd, di, hix]; with_reducible rfl) | rfl)))))) | (((with_reducible apply sg_bx); (case hn => exact rfl); (case hv => exact xLT); (case hc => exact xGS); (case hk => exact rfl))) | (((with_reducible apply sg_al); (case hn => exact rfl); (case hz => exact xTY); (case hc => exact xGS); (case hk => exact rfl))) | (((with_reducible apply sg_st); (case hx => exact xLK); (case hv => exact xLT); (case hc => exact xGS); (case hb => exact rfl); (case ht => exact xTY); (case hz => exact rfl); (case hs => exact xGS))) | (((with_reducible apply sg_e); (case hc => (intros; simp)); (case hs => (simp only [go_sem, Nat.reduceBEq, Nat.reduceBNe, Nat.reduceLT, Nat.reduceGT, Int.reduceGT, Int.reduceMul, Int.reduceAdd, Int.reduceSub, Nat.reduceAdd, Nat.reduceMul, Nat.reduceLeDiff, Nat.reduceEqDiff, Nat.reduceSub, Int.reduceNeg, Int.reduceToNat, Int.reduceLT, Int.reduceLE, Int.reduceEq, Int.cast_ofNat_Int, decide_true, decide_false, Bool.not_true, Bool.not_false, Bool.and_self, reduceIte, reduceCtorEq, List.length_map, hd, di, hix]; with_reducible rfl)))))
       | ((with_reducible apply s_n); (case hw => exact xWF); (case hd => exact rfl); (case hn => exact rfl))
       | ((with_reducible apply qs_ct); (case hc => exact xLK); (case he => exact xHB))
       | ((with_reducible apply qs_cf); (case hc => exact xLK); (case he => exact xHB))
       | ((with_reducible apply qs_cond); (case hc => exact xLK); (case hu => exact xUK); all_goals (intro hb))
       | ((with_reducible apply s_if); (case hg => exact rfl); (case hd => exact rfl); (case he => exact rfl); (case hu => exact xUK); all_goals (intro hb))
       | ((first | apply post_r | apply post_a); (case h1 => first | exact r1_t rfl rfl | exact xR); (case he => simp))
       | (refine hK _ ?_; clear hK)
       | (clear hK; refine hK _ ?_; clear hK)
       | (clear hK; clear hK; refine hK _ ?_; clear hK)
       | (clear hK; clear hK; clear hK; refine hK _ ?_; clear hK)
       | (clear hK; clear hK; clear hK; clear hK; refine hK _ ?_; clear hK)
       | fail
    all_goals (repeat (clear hK))
    all_goals (subst hres; rfl)
  have di : decide ((cols.length : Int) ≤ (L[k] : Int)) = false := by simp; omega
  have hpre' : ∀ j (h : j < L.length), j < k + 1 → decide (L[j] < cols.length) = true := fun j h hj => by
    by_cases e : j = k
    · subst e; simpa using hin
    · exact hpre j h (by omega)
  have hic := ixA_map (f := AV.int .i64) hin
  have hci := hc _ (List.getElem_mem hin)
  have kr := c_mrow t L[k]
  have kn := c_nulls cols[L[k]] hci
  obtain ⟨N, hN⟩ : ∃ N, N = cols[L[k]].toNat := ⟨_, rfl⟩
  rw [← hN] at kn
  have hg : gF t cols L[k] = rowN N (rowF t (L[k] : Int)) := by unfold gF; rw [colsN_in hin, hN]
  have hsu := flatU_succ (t := t) (cols := cols) hlt
  rw [hg] at hsu
  have hlen := flatU_len (t := t) (L := L) hc k (by omega)
  have hNb : N ≤ 1000 := by omega
  generalize rowF t (L[k] : Int) = r at *
  have hrn := rowN_len N r
  have hcl : 0 + N * 2 ≤ ((zerosA nulC N).map TV.v).length := by rw [List.length_map, zerosA_len]; simp [nulC]
  have hcp := nul_copy N r
  have hf1 : (0 + N * 2 ≤ (flat ((rowN N r).map Val.e)).length) = True := by rw [flat_vals, hrn]; simp
  have hf2 : grp 2 N (flat ((rowN N r).map Val.e)) = (rowN N r).map Val.e := by have := grp_vals (rowN N r); rwa [hrn] at this
  have b1 : ((flatU t cols L k).length + N) * 16 ≤ 140737488355328 := by omega
  have b2 : (flatU t cols L k).length + N ≤ 9223372036854775807 := by omega
  rcases hq with rfl | rfl
  all_goals
    repeat' first
     | ((apply tri_frzS 26 (cells := flat ((rowN N r).map Val.e)) rfl); (case hb => exact rfl); (case hf => (simp only [go_sem, Nat.reduceBEq, setB, hf1, hf2, reduceIte, if_true]; with_reducible rfl)))
     | with_reducible first | refine thenQ_n ?_ | refine thenQ_r ?_ | refine thenQ_e ?_ | refine blockQ_n ?_ | refine blockQ_r ?_ | refine blockQ_e ?_ | refine tri_seq fun K hK => ?_ | refine tri_skip ?_ | refine tri_ret ?_ | refine tri_exit ?_ | refine tri_block ?_ | refine tri_region ?_ | refine sq_nil ?_
     | refine blockQ_o ?_ (by rfl)
     | ((with_reducible apply s_w); (case hw => exact xWT); first | ((with_reducible apply sg_q); (case hd => exact rfl); (case hn => exact rfl); (case he => (first | exact xE0 | ((with_reducible apply e_bi); (case hx => exact xDK); (case hy => exact xDK); (case hs => exact rfl); (case h => (simp only [binI, Int.reduceAdd, Int.reduceSub, Int.reduceMul, Int.reduceLT, Int.reduceLE, Int.reduceGT, Int.reduceEq, Int.reduceNeg, decide_true, decide_false, Bool.not_true, Bool.not_false, List.length_map, hd, hw, di, hix, hic, hrn, b1, b2]; with_reducible rfl))) | ((with_reducible apply e_ix); (case hx => exact xDK); (case hi => exact xDK); (case ht => exact xTY); (case hz => exact rfl); (case he => (simp only [List.length_map, hd, hw, di, hix, hic, hrn, b1, b2]; with_reducible rfl)); (case hc => exact xGS)) | ((with_reducible apply e_ln); (case hx => exact xDK); (case ht => exact xTY); (case hn => (first | (simp only [List.length_map, List.length_cons, List.length_nil, List.length_map, hd, hw, di, hix, hic, hrn, b1, b2]; with_reducible rfl) | rfl))) | ((with_reducible apply e_nt); (case hx => exact xDK); (case h => (first | (simp only [Bool.not_true, Bool.not_false, List.length_map, hd, hw, di, hix, hic, hrn, b1, b2]; with_reducible rfl) | rfl)))))) | (((with_reducible apply sg_k); (case ha => exact xDA); (case hfc => ((try simp only [List.length_map, hd, hw, di, hix, hic, hrn, b1, b2]); first | exact kr )); (case hr => exact xRT))) | ((with_reducible apply sg_kv); (case hv => exact rfl); (case ha => exact xDA); (case hl => exact xLs); (case hfc => ((try simp only [List.length_map, hd, hw, di, hix, hic, hrn, b1, b2]); first | exact kr )); (case hr => exact xRT)) | (((with_reducible apply sg_ko); (case hn => exact rfl); (case ha => exact xDA); (case hfc => exact kn); (case hk => exact rfl); intro cap hcap)) | (((with_reducible apply sg_cp); (case hn => exact rfl); (case hx => exact xLK); (case hb => exact rfl); (case hy => exact xDK); (case ht => exact xTY); (case hz => exact rfl); (case hle => exact hcl); (case hcs => exact hcp))) | (((with_reducible apply sg_bx); (case hn => exact rfl); (case hv => exact xLT); (case hc => exact xGS); (case hk => exact rfl))) | (((with_reducible apply sg_al); (case hn => exact rfl); (case hz => exact xTY); (case hc => exact xGS); (case hk => exact rfl))) | (((with_reducible apply sg_st); (case hx => exact xLK); (case hv => exact xLT); (case hc => exact xGS); (case hb => exact rfl); (case ht => exact xTY); (case hz => exact rfl); (case hs => exact xGS))) | (((with_reducible apply sg_e); (case hc => (intros; simp)); (case hs => (simp only [go_sem, Nat.reduceBEq, Nat.reduceBNe, Nat.reduceLT, Nat.reduceGT, Int.reduceGT, Int.reduceMul, Int.reduceAdd, Int.reduceSub, Nat.reduceAdd, Nat.reduceMul, Nat.reduceLeDiff, Nat.reduceEqDiff, Nat.reduceSub, Int.reduceNeg, Int.reduceToNat, Int.reduceLT, Int.reduceLE, Int.reduceEq, Int.cast_ofNat_Int, decide_true, decide_false, Bool.not_true, Bool.not_false, Bool.and_self, reduceIte, reduceCtorEq, List.length_map, hd, hw, di, hix, hic, hrn, b1, b2]; with_reducible rfl)))))
     | ((with_reducible apply s_n); (case hw => exact xWF); (case hd => exact rfl); (case hn => exact rfl))
     | ((with_reducible apply qs_ct); (case hc => exact xLK); (case he => exact xHB))
     | ((with_reducible apply qs_cf); (case hc => exact xLK); (case he => exact xHB))
     | ((with_reducible apply qs_cond); (case hc => exact xLK); (case hu => exact xUK); all_goals (intro hb))
     | ((with_reducible apply s_if); (case hg => exact rfl); (case hd => exact rfl); (case he => exact rfl); (case hu => exact xUK); all_goals (intro hb))
     | ((first | apply post_r | apply post_a); (case h1 => first | exact r1_t rfl rfl | exact xR); (case he => simp))
     | (refine hK _ ?_; clear hK)
     | (clear hK; refine hK _ ?_; clear hK)
     | (clear hK; clear hK; refine hK _ ?_; clear hK)
     | (clear hK; clear hK; clear hK; refine hK _ ?_; clear hK)
     | (clear hK; clear hK; clear hK; clear hK; refine hK _ ?_; clear hK)
     | fail
  all_goals (repeat (clear hK))
  all_goals
    refine ⟨(k + 1, 34), ⟨⟨hlt, hpre'⟩, .inr rfl⟩, by simp only; omega, le_of rfl ?_ (by simp [LeT, get]) (by simp [LeK, memK])⟩
    simp [LeT, get, hsu]

theorem div_bit {s i : Nat} (hs : s < 18446744073709551616) : IntKind.u64.wrap (Int.tdiv (s : Int) (powF i)) = ((s / 2 ^ i : Nat) : Int) := by
  have e : Int.tdiv (s : Int) (powF i) = ((s / 2 ^ i : Nat) : Int) := rfl
  have h1 : s / 2 ^ i ≤ s := Nat.div_le_self _ _
  rw [e, IntKind.wrap_u64]
  generalize s / 2 ^ i = m at h1 ⊢
  omega

set_option maxHeartbeats 4000000 in
theorem c_refHasS (s i : Nat) (hs : s < 18446744073709551616) (hi : i < 64) : FC Try.prog 26 [.int .u64 s, .int .i64 i] (.v (.bool (s.testBit i))) := by
  refine fc_of_body (nt := 19) (rs := [.tmp 4]) (ts := [(0, _), (1, _)]) Try.func26 rfl rfl rfl rfl (by decide) (Nat.le_of_ble_eq_true rfl) ?_
  have k1 := c_power i hi
  have h0 : decide ((0 : Int) ≤ (i : Int)) = true := by simp
  have h1 : decide ((i : Int) < 64) = true := by simp; omega
  have hp : powF i = 0 ↔ False := by unfold powF; have : (0 : Nat) < 2 ^ i := Nat.pos_of_ne_zero (by simp); generalize 2 ^ i = m at this ⊢; exact ⟨fun h => (by omega), fun h => h.elim⟩
  have hp0 : (powF i = 0) = False := propext hp
  have hd := div_bit (i := i) hs
  have hm : Int.tmod ((s / 2 ^ i : Nat) : Int) 2 = ((s / 2 ^ i % 2 : Nat) : Int) := rfl
  have hm' : IntKind.u64.wrap ((s / 2 ^ i % 2 : Nat) : Int) = ((s / 2 ^ i % 2 : Nat) : Int) := by rw [IntKind.wrap_u64]; omega
  have hb : decide (((s / 2 ^ i % 2 : Nat) : Int) = 1) = s.testBit i := by
    rw [Nat.testBit_eq_decide_div_mod_eq]
    simp only [decide_eq_decide]; omega
  repeat' first
   | with_reducible first | refine thenQ_n ?_ | refine thenQ_r ?_ | refine thenQ_e ?_ | refine blockQ_n ?_ | refine blockQ_r ?_ | refine blockQ_e ?_ | refine tri_seq fun K hK => ?_ | refine tri_skip ?_ | refine tri_ret ?_ | refine tri_exit ?_ | refine tri_block ?_ | refine tri_region ?_ | refine sq_nil ?_
   | refine blockQ_o ?_ (by rfl)
   | ((with_reducible apply s_w); (case hw => exact xWT); first | ((with_reducible apply sg_q); (case hd => exact rfl); (case hn => exact rfl); (case he => (first | exact xE0 | ((with_reducible apply e_bi); (case hx => exact xDK); (case hy => exact xDK); (case hs => exact rfl); (case h => (simp only [binI, Int.reduceAdd, Int.reduceSub, Int.reduceMul, Int.reduceLT, Int.reduceLE, Int.reduceGT, Int.reduceEq, Int.reduceNeg, decide_true, decide_false, Bool.not_true, Bool.not_false, h0, h1, hp0, if_false, hd, hm, hm', hb]; with_reducible rfl))) | ((with_reducible apply e_ix); (case hx => exact xDK); (case hi => exact xDK); (case ht => exact xTY); (case hz => exact rfl); (case he => (simp only [h0, h1, hp0, if_false, hd, hm, hm', hb]; with_reducible rfl)); (case hc => exact xGS)) | ((with_reducible apply e_ln); (case hx => exact xDK); (case ht => exact xTY); (case hn => (first | (simp only [List.length_map, List.length_cons, List.length_nil, h0, h1, hp0, if_false, hd, hm, hm', hb]; with_reducible rfl) | rfl))) | ((with_reducible apply e_nt); (case hx => exact xDK); (case h => (first | (simp only [Bool.not_true, Bool.not_false, h0, h1, hp0, if_false, hd, hm, hm', hb]; with_reducible rfl) | rfl)))))) | (((with_reducible apply sg_k); (case ha => exact xDA); (case hfc => ((try simp only [h0, h1, hp0, if_false, hd, hm, hm', hb]); first | exact k1 )); (case hr => exact xRT))) | ((with_reducible apply sg_kv); (case hv => exact rfl); (case ha => exact xDA); (case hl => exact xLs); (case hfc => ((try simp only [h0, h1, hp0, if_false, hd, hm, hm', hb]); first | exact k1 )); (case hr => exact xRT)) | (((with_reducible apply sg_bx); (case hn => exact rfl); (case hv => exact xLT); (case hc => exact xGS); (case hk => exact rfl))) | (((with_reducible apply sg_al); (case hn => exact rfl); (case hz => exact xTY); (case hc => exact xGS); (case hk => exact rfl))) | (((with_reducible apply sg_st); (case hx => exact xLK); (case hv => exact xLT); (case hc => exact xGS); (case hb => exact rfl); (case ht => exact xTY); (case hz => exact rfl); (case hs => exact xGS))) | (((with_reducible apply sg_e); (case hc => (intros; simp)); (case hs => (simp only [go_sem, Nat.reduceBEq, Nat.reduceBNe, Nat.reduceLT, Nat.reduceGT, Int.reduceGT, Int.reduceMul, Int.reduceAdd, Int.reduceSub, Nat.reduceAdd, Nat.reduceMul, Nat.reduceLeDiff, Nat.reduceEqDiff, Nat.reduceSub, Int.reduceNeg, Int.reduceToNat, Int.reduceLT, Int.reduceLE, Int.reduceEq, Int.cast_ofNat_Int, decide_true, decide_false, Bool.not_true, Bool.not_false, Bool.and_self, reduceIte, reduceCtorEq, h0, h1, hp0, if_false, hd, hm, hm', hb]; with_reducible rfl)))))
   | ((with_reducible apply s_n); (case hw => exact xWF); (case hd => exact rfl); (case hn => exact rfl))
   | ((with_reducible apply qs_ct); (case hc => exact xLK); (case he => exact xHB))
   | ((with_reducible apply qs_cf); (case hc => exact xLK); (case he => exact xHB))
   | ((with_reducible apply qs_cond); (case hc => exact xLK); (case hu => exact xUK); all_goals (intro hb))
   | ((with_reducible apply s_if); (case hg => exact rfl); (case hd => exact rfl); (case he => exact rfl); (case hu => exact xUK); all_goals (intro hb))
   | ((first | apply post_r | apply post_a); (case h1 => first | exact r1_t rfl rfl | exact xR); (case he => simp))
   | (refine hK _ ?_; clear hK)
   | (clear hK; refine hK _ ?_; clear hK)
   | (clear hK; clear hK; refine hK _ ?_; clear hK)
   | (clear hK; clear hK; clear hK; refine hK _ ?_; clear hK)
   | (clear hK; clear hK; clear hK; clear hK; refine hK _ ?_; clear hK)
   | fail
  all_goals (repeat (clear hK))
  all_goals first | done | rfl

end Go.Proofs.Ytekdlkjonihglaa.AL
