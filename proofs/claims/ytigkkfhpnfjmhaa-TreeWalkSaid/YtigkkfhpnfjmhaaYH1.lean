/- Trees; the tour of a tree. -/
import Derived.Test.YtigkkfhpnfjmhaaYAZ
import Derived.Test.YtigkkfhpnfjmhaaYF7
namespace Go.Proofs.Ytigkkfhpnfjmhaa.AL
open Go
set_option linter.unusedVariables false
set_option linter.unusedSimpArgs false
set_option maxRecDepth 4000
inductive Tre where
  | mk (kind table : Int) (kids : List Tre) (conj : List Prd) (hash : Bool)
def Tre.kind : Tre → Int | .mk k _ _ _ _ => k
def Tre.table : Tre → Int | .mk _ k _ _ _ => k
def Tre.kids : Tre → List Tre | .mk _ _ k _ _ => k
def Tre.conj : Tre → List Prd | .mk _ _ _ k _ => k
def Tre.hash : Tre → Bool | .mk _ _ _ _ k => k
mutual
def Tre.e : Tre → AV
  | .mk k t ks c h => .agg [.int .i64 k, .int .i64 t, .sl 5 (Tre.eL ks), .sl 14 (c.map Prd.e), .bool h]
def Tre.eL : List Tre → List AV
  | [] => []
  | p :: l => p.e :: Tre.eL l
end
theorem Tre.eL_map : ∀ l : List Tre, Tre.eL l = l.map Tre.e
  | [] => rfl
  | p :: l => by simp only [Tre.eL, List.map_cons, Tre.eL_map l]
theorem Tre.e_eq (p : Tre) : p.e = .agg [.int .i64 p.kind, .int .i64 p.table, .sl 5 (p.kids.map Tre.e), .sl 14 (p.conj.map Prd.e), .bool p.hash] := by
  cases p; simp only [Tre.e, Tre.eL_map]; rfl
attribute [go_sem] Tre.e_eq
abbrev tresE (l : List Tre) : AV := .sl 5 (l.map Tre.e)
theorem Tre.kid_lt {p x : Tre} (h : x ∈ p.kids) : SizeOf.sizeOf x < SizeOf.sizeOf p := by
  cases p with
  | mk k t ks c h' => have := List.sizeOf_lt_of_mem (show x ∈ ks from h); simp only [Tre.mk.sizeOf_spec]; omega
theorem Tre.ind {C : Tre → Prop} (h : ∀ p : Tre, (∀ x ∈ p.kids, C x) → C p) (p : Tre) : C p :=
  h p fun x hx => Tre.ind h x
termination_by SizeOf.sizeOf p
decreasing_by exact Tre.kid_lt hx
/-! The trees within, kids ahead of what they stand in. -/
mutual
def postF : Tre → List Tre
  | .mk k t ks c h => postL ks ++ [.mk k t ks c h]
def postL : List Tre → List Tre
  | [] => []
  | p :: l => postF p ++ postL l
end
theorem postF_eq (p : Tre) : postF p = postL p.kids ++ [p] := by cases p; rw [postF]; rfl
theorem postL_append : ∀ l m : List Tre, postL (l ++ m) = postL l ++ postL m
  | [], m => by simp [postL]
  | p :: l, m => by simp [postL, postL_append l m]
theorem postL_take {l : List Tre} {k : Nat} (h : k < l.length) : postL (l.take (k + 1)) = postL (l.take k) ++ postF l[k] := by
  rw [List.take_succ_eq_append_getElem h, postL_append]; simp [postL]
/-- The tour of x stands in xs from i on. -/
def Tour (xs : List (List AV)) (i : Nat) (l : List Tre) : Prop := ∀ j (h : j < l.length), ∃ h' : i + j < xs.length, xs[i + j] = [l[j].e]
theorem Tour.left {xs : List (List AV)} {i : Nat} {l m : List Tre} (h : Tour xs i (l ++ m)) : Tour xs i l := fun j hj => by
  obtain ⟨h', e⟩ := h j (by rw [List.length_append]; omega)
  exact ⟨h', by rw [e, List.getElem_append_left hj]⟩
theorem Tour.right {xs : List (List AV)} {i : Nat} {l m : List Tre} (h : Tour xs i (l ++ m)) : Tour xs (i + l.length) m := fun j hj => by
  obtain ⟨h', e⟩ := h (l.length + j) (by rw [List.length_append]; omega)
  refine ⟨by omega, ?_⟩
  have : i + l.length + j = i + (l.length + j) := by omega
  simp only [this, e]
  rw [List.getElem_append_right (by omega)]
  simp

theorem ty_len {P : Program} {J : Hold} {φ0 : Nat → Option Nat} {y : Option Nat} {σ : AS} {Q : Exit → Option Nat → AS → Prop} {c : Code} (t : Nat) {sz : Nat} {xs : List AV} (ht : ((get t σ.t).getD .undef).dat = some (.sl sz xs)) (h : xs.length ≤ 9223372036854775807 → TriY P J φ0 c y σ Q) : TriY P J φ0 c y σ Q := by
  refine ⟨fun a w hr => ?_⟩
  have hr' := hr
  obtain ⟨g, U, h1, h2, h3⟩ := hr
  have hx : RT g w ((get t σ.t).getD .undef) (a.eval (.tmp t)) := ev_rt h2 (.tmp t)
  refine (h ?_).h a w hr'
  rcases sl_inv (hx.dat ht) with ⟨rfl, _⟩ | ⟨b, off, cap, vs, _, q1, q2, _⟩
  · simp
  · unfold maxLen at q2; omega
set_option maxHeartbeats 4000000 in
theorem c_walk2 (p : Tre) : ∀ (J : Hold) (l : Nat) (xs : List (List AV)) (b3 b2 i : Nat), Stab J → YldOk Try.prog J l xs → KnotM J 88 b3 b2 l → Tour xs i (postF p) → YF Try.prog J 88 [p.e, .ro [.val (kV 88 b3 b2)], .ro [.yld l]] i (postF p).length := by
  induction p using Tre.ind
  rename_i p ih
  intro J l xs b3 b2 i hJ hY hM hT
  refine yf_of_body (nt := 22) (rt := 4) hJ Try.func88 rfl rfl rfl rfl (Nat.le_of_ble_eq_true rfl) fun U0 N0 w0 => ?_
  have hJ' : Stab (HoldU J U0 N0 w0) := holdU_stab hJ
  have hY' : YldOk Try.prog (HoldU J U0 N0 w0) l xs := holdU_yld hY
  have hM' : KnotM (HoldU J U0 N0 w0) 88 b3 b2 l := knot_hold hM
  have hcap := knot_caps hM'
  generalize HoldU J U0 N0 w0 = J' at *
  rw [postF_eq] at hT
  have hT1 := hT.left
  have hT2 := hT.right
  show TriY Try.prog J' (fun _ => none) _ (some i) ⟨22, [(0, _), (1, _), (2, _)], [], []⟩ _
  repeat' first
    | with_reducible refine thenY_n ?_
    | with_reducible refine thenY_r ?_
    | with_reducible refine thenY_e ?_
    | with_reducible refine blkY_n ?_
    | with_reducible refine blkY_r ?_
    | with_reducible refine blkY_e ?_
    | with_reducible refine ty_seq ?_
    | with_reducible refine ty_skip ?_
    | with_reducible refine ty_exit ?_
    | with_reducible refine ty_ret ?_
    | with_reducible refine ty_block ?_
    | with_reducible refine ty_region ?_
    | with_reducible refine oy_nil ?_
    | refine blkY_o ?_ (by rfl)
    | ((with_reducible apply oy_w); (case hJ => assumption); (case hw => exact xWT); first | ((with_reducible apply sg_q); (case hd => exact rfl); (case hn => exact rfl); (case he => (first | exact xE0 | ((with_reducible apply e_bi); (case hx => exact xDK); (case hy => exact xDK); (case hs => exact rfl); (case h => (simp only [binI, Int.reduceAdd, Int.reduceSub, Int.reduceMul, Int.reduceLT, Int.reduceLE, Int.reduceGT, Int.reduceEq, Int.reduceNeg, decide_true, decide_false, Bool.not_true, Bool.not_false]; with_reducible rfl))) | ((with_reducible apply e_ix); (case hx => exact xDK); (case hi => exact xDK); (case ht => exact xTY); (case hz => exact rfl); (case he => (simp only [go_sem]; with_reducible rfl)); (case hc => exact xGS)) | ((with_reducible apply e_ln); (case hx => exact xDK); (case ht => exact xTY); (case hn => (first | (simp only [List.length_map, List.length_cons, List.length_nil]; with_reducible rfl) | rfl))) | ((with_reducible apply e_nt); (case hx => exact xDK); (case h => (first | (simp only [Bool.not_true, Bool.not_false]; with_reducible rfl) | rfl)))))) | (((with_reducible apply sg_bx); (case hn => exact rfl); (case hv => exact xLT); (case hc => exact xGS); (case hk => exact rfl))) | (((with_reducible apply sg_al); (case hn => exact rfl); (case hz => exact xTY); (case hc => exact xGS); (case hk => exact rfl))) | (((with_reducible apply sg_st); (case hx => exact xLK); (case hv => exact xLT); (case hc => exact xGS); (case hb => exact rfl); (case ht => exact xTY); (case hz => exact rfl); (case hs => exact xGS))) | (((with_reducible apply sg_e); (case hc => (intros; simp)); (case hs => (simp only [go_sem, Nat.reduceBEq, Nat.reduceBNe, Nat.reduceLT, Nat.reduceGT, Int.reduceGT, Int.reduceMul, Int.reduceAdd, Int.reduceSub, Nat.reduceAdd, Nat.reduceMul, Nat.reduceLeDiff, Nat.reduceEqDiff, Nat.reduceSub, Int.reduceNeg, Int.reduceToNat, Int.reduceLT, Int.reduceLE, Int.reduceEq, Int.cast_ofNat_Int, decide_true, decide_false, Bool.not_true, Bool.not_false, Bool.and_self, reduceIte, reduceCtorEq]; with_reducible rfl)))))
    | ((with_reducible apply oy_n); (case hw => exact xWF); (case hd => exact rfl); (case hn => exact rfl))
    | ((with_reducible apply qy_ct); (case hc => exact xLK); (case he => exact xHB))
    | ((with_reducible apply qy_cf); (case hc => exact xLK); (case he => exact xHB))
    | ((with_reducible apply qy_cond); (case hc => exact xLK); (case hu => exact xUK); all_goals (intro hb))
    | ((with_reducible apply oy_if); (case hg => exact rfl); (case hd => exact rfl); (case he => exact rfl); (case hu => exact xUK); all_goals (intro hb))
    | fail
  refine ty_len 8 (sz := 5) (xs := p.kids.map Tre.e) rfl fun hm => ?_
  rw [List.length_map] at hm
  refine ty_for (fun k : Nat => ⟨22, [(10, .v (.int .i64 (k : Int))), (9, .v (.int .i64 (p.kids.length : Int))), (8, .v (tresE p.kids)), (3, .loc 3 0), (2, .v (.ro [.yld l])), (1, .v (.ro [.val (kV 88 b3 b2)]))], [(3, [.v (.int .i64 p.kind), .v (.int .i64 p.table), .v (.sl 5 (p.kids.map Tre.e)), .v (.sl 14 (p.conj.map Prd.e)), .v (.bool p.hash)])], []⟩)
    (fun k => some (i + (postL (p.kids.take k)).length)) (fun k => k ≤ p.kids.length) (fun k => p.kids.length - k) 0 (by simp [postL]) ?_ (Nat.zero_le _) ?_
  · exact le_of rfl (by simp [LeT, get]) (by simp [LeT, get]) (by simp [LeK, memK])
  intro k hk
  by_cases hlt : k < p.kids.length
  · have hd : decide ((k : Int) < ((p.kids.length : Nat) : Int)) = true := by simpa using hlt
    have hw := wrap_succ hlt hm
    have hTk : Tour xs (i + (postL (p.kids.take k)).length) (postF p.kids[k]) := by
      have e : p.kids = p.kids.take (k + 1) ++ p.kids.drop (k + 1) := (List.take_append_drop _ _).symm
      rw [e, postL_append, postL_take hlt] at hT1
      exact hT1.left.right
    have ihk := ih p.kids[k] (List.getElem_mem hlt) J' l xs b3 b2 _ hJ' hY' hM' hTk
    simp only [Tre.e_eq] at ihk
    repeat' first
      | with_reducible refine thenY_n ?_
      | with_reducible refine thenY_r ?_
      | with_reducible refine thenY_e ?_
      | with_reducible refine blkY_n ?_
      | with_reducible refine blkY_r ?_
      | with_reducible refine blkY_e ?_
      | with_reducible refine ty_seq ?_
      | with_reducible refine ty_skip ?_
      | with_reducible refine ty_exit ?_
      | with_reducible refine ty_ret ?_
      | with_reducible refine ty_block ?_
      | with_reducible refine ty_region ?_
      | with_reducible refine oy_nil ?_
      | refine blkY_o ?_ (by rfl)
      | ((with_reducible apply oy_f); (case hJ => assumption); (case hw => exact xWT); (case hn => exact rfl); (case hf => exact rfl); (case ha => exact xDA); (case hcap => exact (fun U N W => hcap _ U N W)); (case hall => exact xLs); (case hy => exact ihk))
      | ((with_reducible apply oy_w); (case hJ => assumption); (case hw => exact xWT); first | ((with_reducible apply sg_q); (case hd => exact rfl); (case hn => exact rfl); (case he => (first | exact xE0 | ((with_reducible apply e_bi); (case hx => exact xDK); (case hy => exact xDK); (case hs => exact rfl); (case h => (simp only [binI, Int.reduceAdd, Int.reduceSub, Int.reduceMul, Int.reduceLT, Int.reduceLE, Int.reduceGT, Int.reduceEq, Int.reduceNeg, decide_true, decide_false, Bool.not_true, Bool.not_false, hd, hw, ixA_map hlt]; with_reducible rfl))) | ((with_reducible apply e_ix); (case hx => exact xDK); (case hi => exact xDK); (case ht => exact xTY); (case hz => exact rfl); (case he => (simp only [hd, hw, ixA_map hlt]; with_reducible rfl)); (case hc => exact xGS)) | ((with_reducible apply e_ln); (case hx => exact xDK); (case ht => exact xTY); (case hn => (first | (simp only [List.length_map, List.length_cons, List.length_nil, hd, hw, ixA_map hlt]; with_reducible rfl) | rfl))) | ((with_reducible apply e_nt); (case hx => exact xDK); (case h => (first | (simp only [Bool.not_true, Bool.not_false, hd, hw, ixA_map hlt]; with_reducible rfl) | rfl)))))) | (((with_reducible apply sg_bx); (case hn => exact rfl); (case hv => exact xLT); (case hc => exact xGS); (case hk => exact rfl))) | (((with_reducible apply sg_al); (case hn => exact rfl); (case hz => exact xTY); (case hc => exact xGS); (case hk => exact rfl))) | (((with_reducible apply sg_st); (case hx => exact xLK); (case hv => exact xLT); (case hc => exact xGS); (case hb => exact rfl); (case ht => exact xTY); (case hz => exact rfl); (case hs => exact xGS))) | (((with_reducible apply sg_e); (case hc => (intros; simp)); (case hs => (simp only [go_sem, Nat.reduceBEq, Nat.reduceBNe, Nat.reduceLT, Nat.reduceGT, Int.reduceGT, Int.reduceMul, Int.reduceAdd, Int.reduceSub, Nat.reduceAdd, Nat.reduceMul, Nat.reduceLeDiff, Nat.reduceEqDiff, Nat.reduceSub, Int.reduceNeg, Int.reduceToNat, Int.reduceLT, Int.reduceLE, Int.reduceEq, Int.cast_ofNat_Int, decide_true, decide_false, Bool.not_true, Bool.not_false, Bool.and_self, reduceIte, reduceCtorEq, hd, hw, ixA_map hlt]; with_reducible rfl)))))
      | ((with_reducible apply oy_n); (case hw => exact xWF); (case hd => exact rfl); (case hn => exact rfl))
      | ((with_reducible apply qy_ct); (case hc => exact xLK); (case he => exact xHB))
      | ((with_reducible apply qy_cf); (case hc => exact xLK); (case he => exact xHB))
      | ((with_reducible apply qy_cond); (case hc => exact xLK); (case hu => exact xUK); all_goals (intro hb))
      | ((with_reducible apply oy_if); (case hg => exact rfl); (case hd => exact rfl); (case he => exact rfl); (case hu => exact xUK); all_goals (intro hb))
      | fail
    · exact ⟨k + 1, hlt, by omega, by rw [postL_take hlt, List.length_append, Nat.add_assoc], le_of rfl (by simp [LeT, get]) (by simp [LeT, get]) (by simp [LeK, memK])⟩
    · exact ⟨.inr rfl, false, rfl, .inr ⟨rfl, rfl⟩⟩
  · have hd : decide ((k : Int) < ((p.kids.length : Nat) : Int)) = false := by simpa using hlt
    obtain rfl : k = p.kids.length := by omega
    have hi' : ∃ h : i + (postL p.kids).length < xs.length, xs[i + (postL p.kids).length] = [.agg [.int .i64 p.kind, .int .i64 p.table, .sl 5 (p.kids.map Tre.e), .sl 14 (p.conj.map Prd.e), .bool p.hash]] := by
      obtain ⟨h1, h2⟩ := hT2 0 (by simp)
      refine ⟨by simpa using h1, ?_⟩
      simp only [Nat.add_zero, List.getElem_cons_zero] at h2
      rw [h2, Tre.e_eq]
    simp only [List.take_length]
    repeat' first
      | with_reducible refine thenY_n ?_
      | with_reducible refine thenY_r ?_
      | with_reducible refine thenY_e ?_
      | with_reducible refine blkY_n ?_
      | with_reducible refine blkY_r ?_
      | with_reducible refine blkY_e ?_
      | with_reducible refine ty_seq ?_
      | with_reducible refine ty_skip ?_
      | with_reducible refine ty_exit ?_
      | with_reducible refine ty_ret ?_
      | with_reducible refine ty_block ?_
      | with_reducible refine ty_region ?_
      | with_reducible refine oy_nil ?_
      | refine blkY_o ?_ (by rfl)
      | ((with_reducible apply oy_y); (case hJ => assumption); (case hY => exact hY'); (case hw => exact xWT); (case hn => exact rfl); (case hf => exact rfl); (case ha => exact xDA); (case hi => exact hi'))
      | ((with_reducible apply oy_w); (case hJ => assumption); (case hw => exact xWT); first | ((with_reducible apply sg_q); (case hd => exact rfl); (case hn => exact rfl); (case he => (first | exact xE0 | ((with_reducible apply e_bi); (case hx => exact xDK); (case hy => exact xDK); (case hs => exact rfl); (case h => (simp only [binI, Int.reduceAdd, Int.reduceSub, Int.reduceMul, Int.reduceLT, Int.reduceLE, Int.reduceGT, Int.reduceEq, Int.reduceNeg, decide_true, decide_false, Bool.not_true, Bool.not_false, hd]; with_reducible rfl))) | ((with_reducible apply e_ix); (case hx => exact xDK); (case hi => exact xDK); (case ht => exact xTY); (case hz => exact rfl); (case he => (simp only [hd]; with_reducible rfl)); (case hc => exact xGS)) | ((with_reducible apply e_ln); (case hx => exact xDK); (case ht => exact xTY); (case hn => (first | (simp only [List.length_map, List.length_cons, List.length_nil, hd]; with_reducible rfl) | rfl))) | ((with_reducible apply e_nt); (case hx => exact xDK); (case h => (first | (simp only [Bool.not_true, Bool.not_false, hd]; with_reducible rfl) | rfl)))))) | (((with_reducible apply sg_bx); (case hn => exact rfl); (case hv => exact xLT); (case hc => exact xGS); (case hk => exact rfl))) | (((with_reducible apply sg_al); (case hn => exact rfl); (case hz => exact xTY); (case hc => exact xGS); (case hk => exact rfl))) | (((with_reducible apply sg_st); (case hx => exact xLK); (case hv => exact xLT); (case hc => exact xGS); (case hb => exact rfl); (case ht => exact xTY); (case hz => exact rfl); (case hs => exact xGS))) | (((with_reducible apply sg_e); (case hc => (intros; simp)); (case hs => (simp only [go_sem, Nat.reduceBEq, Nat.reduceBNe, Nat.reduceLT, Nat.reduceGT, Int.reduceGT, Int.reduceMul, Int.reduceAdd, Int.reduceSub, Nat.reduceAdd, Nat.reduceMul, Nat.reduceLeDiff, Nat.reduceEqDiff, Nat.reduceSub, Int.reduceNeg, Int.reduceToNat, Int.reduceLT, Int.reduceLE, Int.reduceEq, Int.cast_ofNat_Int, decide_true, decide_false, Bool.not_true, Bool.not_false, Bool.and_self, reduceIte, reduceCtorEq, hd]; with_reducible rfl)))))
      | ((with_reducible apply oy_n); (case hw => exact xWF); (case hd => exact rfl); (case hn => exact rfl))
      | ((with_reducible apply qy_ct); (case hc => exact xLK); (case he => exact xHB))
      | ((with_reducible apply qy_cf); (case hc => exact xLK); (case he => exact xHB))
      | ((with_reducible apply qy_cond); (case hc => exact xLK); (case hu => exact xUK); all_goals (intro hb))
      | ((with_reducible apply oy_if); (case hg => exact rfl); (case hd => exact rfl); (case he => exact rfl); (case hu => exact xUK); all_goals (intro hb))
      | fail
    · exact ⟨.inr rfl, true, rfl, .inl ⟨rfl, by rw [postF_eq, List.length_append]; rfl⟩⟩
    · exact ⟨.inr rfl, false, rfl, .inr ⟨rfl, rfl⟩⟩

set_option maxHeartbeats 4000000 in
/-- The tour of a tree. -/
theorem c_walk1 (p : Tre) : IC Try.prog 87 [.ro [.int .i64 p.kind, .int .i64 p.table, .sl 5 (p.kids.map Tre.e), .sl 14 (p.conj.map Prd.e), .bool p.hash]] ((postF p).map fun t => [t.e]) := by
  refine ic_of_body (nt := 8) Try.func87 rfl rfl rfl rfl (Nat.le_of_ble_eq_true rfl) fun l J hJ hY => ?_
  have hT : Tour ((postF p).map fun t => [t.e]) 0 (postF p) := fun j hj => ⟨by simpa using hj, by simp⟩
  have hk : ∀ J' b3 b2, Stab J' → YldOk Try.prog J' l ((postF p).map fun t => [t.e]) → KnotM J' 88 b3 b2 l →
      YF Try.prog J' 88 ([.agg [.int .i64 p.kind, .int .i64 p.table, .sl 5 (p.kids.map Tre.e), .sl 14 (p.conj.map Prd.e), .bool p.hash]] ++ [.ro [.val (kV 88 b3 b2)], .ro [.yld l]]) 0 (postF p).length := fun J' b3 b2 h1 h2 h3 => by
    have := c_walk2 p J' l _ b3 b2 0 h1 h2 h3 hT
    simpa only [Tre.e_eq, List.cons_append, List.nil_append] using this
  show TriY Try.prog J (fun _ => none) _ (some 0) ⟨8, [(0, _), (1, _)], [], []⟩ _
  repeat' first
    | with_reducible refine thenY_n ?_
    | with_reducible refine thenY_r ?_
    | with_reducible refine thenY_e ?_
    | with_reducible refine blkY_n ?_
    | with_reducible refine blkY_r ?_
    | with_reducible refine blkY_e ?_
    | with_reducible refine ty_seq ?_
    | with_reducible refine ty_skip ?_
    | with_reducible refine ty_exit ?_
    | with_reducible refine ty_ret ?_
    | with_reducible refine ty_block ?_
    | with_reducible refine ty_region ?_
    | with_reducible refine oy_nil ?_
    | refine blkY_o ?_ (by rfl)
    | ((with_reducible apply oy_w); (case hJ => assumption); (case hw => exact xWT); first | ((with_reducible apply sg_q); (case hd => exact rfl); (case hn => exact rfl); (case he => (first | exact xE0 | ((with_reducible apply e_bi); (case hx => exact xDK); (case hy => exact xDK); (case hs => exact rfl); (case h => (simp only [binI, Int.reduceAdd, Int.reduceSub, Int.reduceMul, Int.reduceLT, Int.reduceLE, Int.reduceGT, Int.reduceEq, Int.reduceNeg, decide_true, decide_false, Bool.not_true, Bool.not_false]; with_reducible rfl))) | ((with_reducible apply e_ix); (case hx => exact xDK); (case hi => exact xDK); (case ht => exact xTY); (case hz => exact rfl); (case he => (simp only [go_sem]; with_reducible rfl)); (case hc => exact xGS)) | ((with_reducible apply e_ln); (case hx => exact xDK); (case ht => exact xTY); (case hn => (first | (simp only [List.length_map, List.length_cons, List.length_nil]; with_reducible rfl) | rfl))) | ((with_reducible apply e_nt); (case hx => exact xDK); (case h => (first | (simp only [Bool.not_true, Bool.not_false]; with_reducible rfl) | rfl)))))) | (((with_reducible apply sg_bx); (case hn => exact rfl); (case hv => exact xLT); (case hc => exact xGS); (case hk => exact rfl))) | (((with_reducible apply sg_al); (case hn => exact rfl); (case hz => exact xTY); (case hc => exact xGS); (case hk => exact rfl))) | (((with_reducible apply sg_st); (case hx => exact xLK); (case hv => exact xLT); (case hc => exact xGS); (case hb => exact rfl); (case ht => exact xTY); (case hz => exact rfl); (case hs => exact xGS))) | (((with_reducible apply sg_e); (case hc => (intros; simp)); (case hs => (simp only [go_sem, Nat.reduceBEq, Nat.reduceBNe, Nat.reduceLT, Nat.reduceGT, Int.reduceGT, Int.reduceMul, Int.reduceAdd, Int.reduceSub, Nat.reduceAdd, Nat.reduceMul, Nat.reduceLeDiff, Nat.reduceEqDiff, Nat.reduceSub, Int.reduceNeg, Int.reduceToNat, Int.reduceLT, Int.reduceLE, Int.reduceEq, Int.cast_ofNat_Int, decide_true, decide_false, Bool.not_true, Bool.not_false, Bool.and_self, reduceIte, reduceCtorEq]; with_reducible rfl)))))
    | ((with_reducible apply oy_n); (case hw => exact xWF); (case hd => exact rfl); (case hn => exact rfl))
    | ((with_reducible apply qy_ct); (case hc => exact xLK); (case he => exact xHB))
    | ((with_reducible apply qy_cf); (case hc => exact xLK); (case he => exact xHB))
    | ((with_reducible apply qy_cond); (case hc => exact xLK); (case hu => exact xUK); all_goals (intro hb))
    | ((with_reducible apply oy_if); (case hg => exact rfl); (case hd => exact rfl); (case he => exact rfl); (case hu => exact xUK); all_goals (intro hb))
    | ((with_reducible apply oy_knot); (case hJ => assumption); (case hY => exact hY); (case hw => exact wt_n rfl); (case hf => exact rfl); (case hb3 => exact rfl); (case hb2 => exact rfl); (case ha => (repeat' first | with_reducible exact da_nil | apply da_cons | exact dt_v rfl | exact dt_a rfl | exact dt_i | exact dt_b | exact dt_f | exact dt_s (by simp only [go_sem]; with_reducible rfl) | exact dt_n rfl rfl)); (case hy => exact hk))
    | fail
  · exact ⟨.inl rfl, .inl (by simp)⟩
  · exact ⟨.inl rfl, .inr rfl⟩

set_option maxHeartbeats 4000000 in
theorem c_walk (p : Tre) : FC Try.prog 49 [p.e] (.v (.fn 87 [.ro [.int .i64 p.kind, .int .i64 p.table, .sl 5 (p.kids.map Tre.e), .sl 14 (p.conj.map Prd.e), .bool p.hash]])) := by
  refine fc_of_body (nt := 4) (rs := [.tmp 2]) (ts := [(0, _)]) Try.func49 rfl rfl rfl rfl (by decide) (Nat.le_of_ble_eq_true rfl) ?_
  repeat' first
   | (apply tri_frz 1 (by decide); (case hb => (simp only [go_sem, Nat.reduceBEq, Nat.reduceBNe, Nat.reduceLT, Nat.reduceGT, Int.reduceGT, Int.reduceMul, Int.reduceAdd, Int.reduceSub, Nat.reduceAdd, Nat.reduceMul, Nat.reduceLeDiff, Nat.reduceEqDiff, Nat.reduceSub, Int.reduceNeg, Int.reduceToNat, Int.reduceLT, Int.reduceLE, Int.cast_ofNat_Int, decide_true, decide_false, Bool.and_self, reduceIte, reduceCtorEq]; with_reducible rfl)); (case hc => (simp only [go_sem, Nat.reduceBEq, Nat.reduceBNe, Nat.reduceLT, Nat.reduceGT, Int.reduceGT, Int.reduceMul, Int.reduceAdd, Int.reduceSub, Nat.reduceAdd, Nat.reduceMul, Nat.reduceLeDiff, Nat.reduceEqDiff, Nat.reduceSub, Int.reduceNeg, Int.reduceToNat, Int.reduceLT, Int.reduceLE, Int.cast_ofNat_Int, decide_true, decide_false, Bool.and_self, reduceIte, reduceCtorEq]; with_reducible rfl)); try simp only [go_sem, Nat.reduceBEq])
   | with_reducible first | refine thenQ_n ?_ | refine thenQ_r ?_ | refine thenQ_e ?_ | refine blockQ_n ?_ | refine blockQ_r ?_ | refine blockQ_e ?_ | refine tri_seq fun K hK => ?_ | refine tri_skip ?_ | refine tri_ret ?_ | refine tri_exit ?_ | refine tri_block ?_ | refine tri_region ?_ | refine sq_nil ?_
   | refine blockQ_o ?_ (by rfl)
   | ((with_reducible apply s_w); (case hw => exact xWT); first | ((with_reducible apply sg_q); (case hd => exact rfl); (case hn => exact rfl); (case he => (first | exact xE0 | ((with_reducible apply e_bi); (case hx => exact xDK); (case hy => exact xDK); (case hs => exact rfl); (case h => (simp only [binI, Int.reduceAdd, Int.reduceSub, Int.reduceMul, Int.reduceLT, Int.reduceLE, Int.reduceGT, Int.reduceEq, Int.reduceNeg, decide_true, decide_false, Bool.not_true, Bool.not_false]; with_reducible rfl))) | ((with_reducible apply e_ix); (case hx => exact xDK); (case hi => exact xDK); (case ht => exact xTY); (case hz => exact rfl); (case he => (simp only [go_sem]; with_reducible rfl)); (case hc => exact xGS)) | ((with_reducible apply e_ln); (case hx => exact xDK); (case ht => exact xTY); (case hn => (first | (simp only [List.length_map, List.length_cons, List.length_nil]; with_reducible rfl) | rfl))) | ((with_reducible apply e_nt); (case hx => exact xDK); (case h => (first | (simp only [Bool.not_true, Bool.not_false]; with_reducible rfl) | rfl)))))) | (((with_reducible apply sg_bx); (case hn => exact rfl); (case hv => exact xLT); (case hc => exact xGS); (case hk => exact rfl))) | (((with_reducible apply sg_al); (case hn => exact rfl); (case hz => exact xTY); (case hc => exact xGS); (case hk => exact rfl))) | (((with_reducible apply sg_st); (case hx => exact xLK); (case hv => exact xLT); (case hc => exact xGS); (case hb => exact rfl); (case ht => exact xTY); (case hz => exact rfl); (case hs => exact xGS))) | (((with_reducible apply sg_e); (case hc => (intros; simp)); (case hs => (simp only [go_sem, Nat.reduceBEq, Nat.reduceBNe, Nat.reduceLT, Nat.reduceGT, Int.reduceGT, Int.reduceMul, Int.reduceAdd, Int.reduceSub, Nat.reduceAdd, Nat.reduceMul, Nat.reduceLeDiff, Nat.reduceEqDiff, Nat.reduceSub, Int.reduceNeg, Int.reduceToNat, Int.reduceLT, Int.reduceLE, Int.reduceEq, Int.cast_ofNat_Int, decide_true, decide_false, Bool.not_true, Bool.not_false, Bool.and_self, reduceIte, reduceCtorEq]; with_reducible rfl)))))
   | ((with_reducible apply s_n); (case hw => exact xWF); (case hd => exact rfl); (case hn => exact rfl))
   | ((with_reducible apply qs_ct); (case hc => exact xLK); (case he => exact xHB))
   | ((with_reducible apply qs_cf); (case hc => exact xLK); (case he => exact xHB))
   | ((with_reducible apply qs_cond); (case hc => exact xLK); (case hu => exact xUK); all_goals (intro hb))
   | ((with_reducible apply s_if); (case hg => exact rfl); (case hd => exact rfl); (case he => exact rfl); (case hu => exact xUK); all_goals (intro hb))
   | ((first | apply post_r | apply post_a); (case h1 => first | exact r1_t rfl rfl | (simp only [go_sem, Nat.reduceBEq, Nat.reduceBNe, Nat.reduceLT, Nat.reduceGT, Int.reduceGT, Int.reduceMul, Int.reduceAdd, Int.reduceSub, Nat.reduceAdd, Nat.reduceMul, Nat.reduceLeDiff, Nat.reduceEqDiff, Nat.reduceSub, Int.reduceNeg, Int.reduceToNat, Int.reduceLT, Int.reduceLE, Int.reduceEq, Int.cast_ofNat_Int, decide_true, decide_false, Bool.not_true, Bool.not_false, Bool.and_self, reduceIte, reduceCtorEq]; with_reducible rfl)); (case he => simp))
   | (refine hK _ ?_; clear hK)
   | (clear hK; refine hK _ ?_; clear hK)
   | (clear hK; clear hK; refine hK _ ?_; clear hK)
   | (clear hK; clear hK; clear hK; refine hK _ ?_; clear hK)
   | (clear hK; clear hK; clear hK; clear hK; refine hK _ ?_; clear hK)
   | fail
  all_goals (repeat (clear hK))
  all_goals rfl

end Go.Proofs.Ytigkkfhpnfjmhaa.AL
