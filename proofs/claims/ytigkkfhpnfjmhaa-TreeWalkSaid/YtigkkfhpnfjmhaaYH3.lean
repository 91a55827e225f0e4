/- Contracts: the size of a tree. -/
import Derived.Test.YtigkkfhpnfjmhaaYH1
import Derived.Test.YtigkkfhpnfjmhaaYF27
namespace Go.Proofs.Ytigkkfhpnfjmhaa.AL
open Go
set_option linter.unusedVariables false
set_option linter.unusedSimpArgs false
set_option maxRecDepth 4000
/-- A slice in a variable has no more elements than a number counts. -/
theorem tri_boxlen {P : Program} {ro : Option Nat} {n : Nat} {σ : AS} {Q : Exit → AS → Prop} {c : Code} {cs : List TV} {sz : Nat} {xs : List AV} (t i : Nat) (hb : get t σ.b = some cs) (hc : cs[i]? = some (.v (.sl sz xs)))
    (h : xs.length ≤ 9223372036854775807 → Tri P ro n c σ Q) : Tri P ro n c σ Q := by
  intro E hE a w hr
  have hr' := hr
  obtain ⟨g, h1, h2, h3⟩ := hr
  refine h ?_ E hE a w hr'
  obtain ⟨b, vs, e, q1, q2, q3, q4, q5⟩ := h1.box t _ hb
  have hlt : i < vs.size := by rw [← q3]; exact (List.getElem?_eq_some_iff.1 hc).1
  have hv : vs[i]? = some vs[i] := by simp [hlt]
  rcases sl_inv (v_inv (q4 i _ _ hc hv).1) with ⟨rfl, _⟩ | ⟨b, off, cap, vs, _, q1, q2, _⟩
  · simp
  · unfold maxLen at q2; omega
mutual
def tszF : Tre → Int → Int
  | .mk k t ks c h, most => tszL most (szL most 1 c) ks
def tszL (most n : Int) : List Tre → Int
  | [] => n
  | p :: l => if n < most then tszL most (n + tszF p (most - n)) l else n
end
theorem tszF_eq (p : Tre) (most : Int) : tszF p most = tszL most (szL most 1 p.conj) p.kids := by cases p; rw [tszF]; rfl
theorem tszL_full {most n : Int} (h : ¬ n < most) : ∀ l, tszL most n l = n
  | [] => by rw [tszL]
  | p :: l => by rw [tszL, if_neg h]
theorem tszL_append {most : Int} : ∀ (l m : List Tre) (n : Int), tszL most n (l ++ m) = tszL most (tszL most n l) m
  | [], m, n => by simp [tszL]
  | p :: l, m, n => by
    by_cases h : n < most
    · simp only [List.cons_append, tszL, if_pos h, tszL_append l m]
    · simp only [List.cons_append, tszL, if_neg h, tszL_full h]
theorem tszF_bd (p : Tre) : ∀ most : Int, 1 ≤ most → 1 ≤ tszF p most ∧ tszF p most ≤ most := by
  induction p using Tre.ind
  rename_i p ih
  intro most hm
  rw [tszF_eq]
  have key : ∀ (l : List Tre) (n : Int), (∀ x ∈ l, x ∈ p.kids) → 1 ≤ n → n ≤ most → 1 ≤ tszL most n l ∧ tszL most n l ≤ most := by
    intro l
    induction l with
    | nil => intro n _ h1 h2; rw [tszL]; exact ⟨h1, h2⟩
    | cons x l ihl =>
      intro n hl h1 h2
      rw [tszL]
      split
      · have := ih x (hl x (by simp)) (most - n) (by omega)
        exact ihl _ (fun y hy => hl y (by simp [hy])) (by omega) (by omega)
      · exact ⟨h1, h2⟩
  have := szL_bd (most := most) p.conj 1 (by omega) hm
  exact key _ _ (fun x h => h) this.1 this.2
theorem tszL_bd {most : Int} : ∀ (l : List Tre) (n : Int), 1 ≤ n → n ≤ most → 1 ≤ tszL most n l ∧ tszL most n l ≤ most
  | [], n, h1, h2 => by rw [tszL]; exact ⟨h1, h2⟩
  | x :: l, n, h1, h2 => by
    rw [tszL]
    split
    · have := tszF_bd x (most - n) (by omega)
      exact tszL_bd l _ (by omega) (by omega)
    · exact ⟨h1, h2⟩
theorem tszL_take {most n : Int} {l : List Tre} {k : Nat} (h : k < l.length) (hn : tszL most n (l.take k) < most) : tszL most n (l.take (k + 1)) = tszL most n (l.take k) + tszF l[k] (most - tszL most n (l.take k)) := by
  rw [List.take_succ_eq_append_getElem h, tszL_append]; simp only [tszL, if_pos hn]
theorem tszL_stop {most n : Int} {l : List Tre} {k : Nat} (hn : ¬ tszL most n (l.take k) < most) : tszL most n l = tszL most n (l.take k) := by
  have := tszL_append (most := most) (l.take k) (l.drop k) n
  rw [List.take_append_drop] at this
  rw [this, tszL_full hn]
/-! How many trees, and predicates in these. -/
mutual
def wtT : Tre → Nat
  | .mk k t ks c h => 1 + (gathL tab1F c).length + wtL ks
def wtL : List Tre → Nat
  | [] => 0
  | p :: l => wtT p + wtL l
end
theorem wtT_eq (p : Tre) : wtT p = 1 + (gathL tab1F p.conj).length + wtL p.kids := by cases p; rw [wtT]; rfl
theorem szL_min {most : Int} : ∀ (l : List Prd) (n : Int), 1 ≤ n → n ≤ most → szL most n l = min most (n + ((gathL tab1F l).length : Int))
  | [], n, h1, h2 => by simp only [szL, gathL, List.length_nil]; omega
  | x :: l, n, h1, h2 => by
    simp only [szL, gathL, List.length_append]
    split
    · have b := szF_min x (most - n) (by omega)
      rw [b, szL_min l _ (by omega) (by omega)]; omega
    · omega
theorem tszF_min (p : Tre) : ∀ most : Int, 1 ≤ most → tszF p most = min most (wtT p : Int) := by
  induction p using Tre.ind
  rename_i p ih
  intro most hm
  have key : ∀ (l : List Tre), (∀ x ∈ l, x ∈ p.kids) → ∀ n : Int, 1 ≤ n → n ≤ most → tszL most n l = min most (n + (wtL l : Int)) := by
    intro l
    induction l with
    | nil => intro _ n h1 h2; simp only [tszL, wtL]; omega
    | cons x l ihl =>
      intro hl n h1 h2
      simp only [tszL, wtL]
      split
      · rw [ih x (hl x (by simp)) (most - n) (by omega), ihl (fun y hy => hl y (by simp [hy])) _ (by omega) (by omega)]
        omega
      · omega
  have hb := szL_bd (most := most) p.conj 1 (by omega) hm
  rw [tszF_eq, key _ (fun x h => h) _ hb.1 hb.2, szL_min _ 1 (by omega) hm, wtT_eq]
  omega
theorem few_trees {p : Tre} (h : tszF p 301 ≤ 300) : wtT p ≤ 300 := by
  rw [tszF_min p 301 (by omega)] at h; omega
theorem post_wt (p : Tre) : (postF p).length ≤ wtT p := by
  induction p using Tre.ind
  rename_i p ih
  have key : ∀ (l : List Tre), (∀ x ∈ l, x ∈ p.kids) → (postL l).length ≤ wtL l := by
    intro l
    induction l with
    | nil => intro _; simp [postL, wtL]
    | cons x l ihl =>
      intro hl
      have h1 := ih x (hl x (by simp))
      have h2 := ihl fun y hy => hl y (by simp [hy])
      simp only [postL, wtL, List.length_append]; omega
  have := key _ (fun x h => h)
  rw [postF_eq, wtT_eq, List.length_append]
  simp only [List.length_cons, List.length_nil]; omega
theorem wtT_pos (p : Tre) : 1 ≤ wtT p := by rw [wtT_eq]; omega
theorem wtL_ge : ∀ l : List Tre, l.length ≤ wtL l
  | [] => by simp [wtL]
  | p :: l => by
    have := wtL_ge l; have := wtT_pos p
    simp only [wtL, List.length_cons]; omega
theorem wtL_mem {p : Tre} : ∀ {l : List Tre}, p ∈ l → wtT p ≤ wtL l
  | [], h => by cases h
  | q :: l, h => by
    simp only [wtL]
    rcases List.mem_cons.1 h with rfl | h
    · omega
    · have := wtL_mem h; omega

set_option maxHeartbeats 4000000 in
theorem c_treSz (p : Tre) (most : Int) (hb : 1 ≤ most ∧ most ≤ 1000000) : FC Try.prog 12 [p.e, .int .i64 most] (.v (.int .i64 (tszF p most))) := by
  revert hb
  revert most
  induction p using Tre.ind
  rename_i p ih
  intro most hmost
  refine fc_of_body (nt := 55) (rs := [.tmp 4]) (ts := [(0, _), (1, _)]) Try.func12 rfl rfl rfl rfl (by decide) (Nat.le_of_ble_eq_true rfl) ?_
  repeat' first
   | with_reducible first | refine thenQ_n ?_ | refine thenQ_r ?_ | refine thenQ_e ?_ | refine blockQ_n ?_ | refine blockQ_r ?_ | refine blockQ_e ?_ | refine tri_seq fun K hK => ?_ | refine tri_skip ?_ | refine tri_ret ?_ | refine tri_exit ?_ | refine tri_block ?_ | refine tri_region ?_ | refine sq_nil ?_
   | refine blockQ_o ?_ (by rfl)
   | ((with_reducible apply s_w); (case hw => exact xWT); first | ((with_reducible apply sg_q); (case hd => exact rfl); (case hn => exact rfl); (case he => (first | exact xE0 | ((with_reducible apply e_bi); (case hx => exact xDK); (case hy => exact xDK); (case hs => exact rfl); (case h => (simp only [binI, Int.reduceAdd, Int.reduceSub, Int.reduceMul, Int.reduceLT, Int.reduceLE, Int.reduceGT, Int.reduceEq, Int.reduceNeg, decide_true, decide_false, Bool.not_true, Bool.not_false]; with_reducible rfl))) | ((with_reducible apply e_ix); (case hx => exact xDK); (case hi => exact xDK); (case ht => exact xTY); (case hz => exact rfl); (case he => (simp only [go_sem]; with_reducible rfl)); (case hc => exact xGS)) | ((with_reducible apply e_ln); (case hx => exact xDK); (case ht => exact xTY); (case hn => (first | (simp only [List.length_map, List.length_cons, List.length_nil]; with_reducible rfl) | rfl))) | ((with_reducible apply e_nt); (case hx => exact xDK); (case h => (first | (simp only [Bool.not_true, Bool.not_false]; with_reducible rfl) | rfl)))))) | (((with_reducible apply sg_bx); (case hn => exact rfl); (case hv => exact xLT); (case hc => exact xGS); (case hk => exact rfl))) | (((with_reducible apply sg_al); (case hn => exact rfl); (case hz => exact xTY); (case hc => exact xGS); (case hk => exact rfl))) | (((with_reducible apply sg_st); (case hx => exact xLK); (case hv => exact xLT); (case hc => exact xGS); (case hb => exact rfl); (case ht => exact xTY); (case hz => exact rfl); (case hs => exact xGS))) | (((with_reducible apply sg_e); (case hc => (intros; simp)); (case hs => (simp only [go_sem, Nat.reduceBEq, Nat.reduceBNe, Nat.reduceLT, Nat.reduceGT, Int.reduceGT, Int.reduceMul, Int.reduceAdd, Int.reduceSub, Nat.reduceAdd, Nat.reduceMul, Nat.reduceLeDiff, Nat.reduceEqDiff, Nat.reduceSub, Int.reduceNeg, Int.reduceToNat, Int.reduceLT, Int.reduceLE, Int.reduceEq, Int.cast_ofNat_Int, decide_true, decide_false, Bool.not_true, Bool.not_false, Bool.and_self, reduceIte, reduceCtorEq]; with_reducible rfl)))))
   | ((with_reducible apply s_n); (case hw => exact xWF); (case hd => exact rfl); (case hn => exact rfl))
   | ((with_reducible apply qs_ct); (case hc => exact xLK); (case he => exact xHB))
   | ((with_reducible apply qs_cf); (case hc => exact xLK); (case he => exact xHB))
   | ((with_reducible apply qs_cond); (case hc => exact xLK); (case hu => exact xUK); all_goals (intro hb))
   | ((with_reducible apply s_if); (case hg => exact rfl); (case hd => exact rfl); (case he => exact rfl); (case hu => exact xUK); all_goals (intro hb))
   | ((first | apply post_r | apply post_a); (case h1 => first | exact r1_t rfl rfl | (simp only [go_sem, Nat.reduceBEq, Nat.reduceBNe, Nat.reduceLT, Nat.reduceGT, Int.reduceGT, Int.reduceMul, Int.reduceAdd, Int.reduceSub, Nat.reduceAdd, Nat.reduceMul, Nat.reduceLeDiff, Nat.reduceEqDiff, Nat.reduceSub, Int.reduceNeg, Int.reduceToNat, Int.reduceLT, Int.reduceLE, Int.reduceEq, Int.cast_ofNat_Int, decide_true, decide_false, Bool.not_true, Bool.not_false, Bool.and_self, reduceIte, reduceCtorEq]; with_reducible rfl)); (case he => simp))
   | (refine hK _ ?_; clear hK)
   | (clear hK; refine hK _ ?_; clear hK)
   | (clear hK; clear hK; refine hK _ ?_; clear hK)
   | (clear hK; clear hK; clear hK; refine hK _ ?_; clear hK)
   | (clear hK; clear hK; clear hK; clear hK; refine hK _ ?_; clear hK)
   | fail
  refine tri_boxlen 2 2 rfl rfl fun hmk => ?_
  refine tri_boxlen 2 3 rfl rfl fun hmc => ?_
  rw [List.length_map] at hmk hmc
  refine tri_for (fun k : Nat => ⟨55, [(6, .v (.int .i64 (k : Int))), (5, .v (.int .i64 (szL most 1 (p.conj.take k)))), (2, .loc 2 0), (1, .v (.int .i64 most))], [(2, [.v (.int .i64 p.kind), .v (.int .i64 p.table), .v (.sl 5 (p.kids.map Tre.e)), .v (.sl 14 (p.conj.map Prd.e)), .v (.bool p.hash)])], []⟩) (fun k => k ≤ p.conj.length) (fun k => p.conj.length - k) 0 ?_ (Nat.zero_le _) ?_
  · exact le_of rfl (by simp [LeT, get, szL]) (by simp [LeT, get]) (by simp [LeK, memK])
  intro k hk
  have bd := szL_bd (most := most) (p.conj.take k) 1 (by omega) hmost.1
  by_cases hlt : k < p.conj.length
  · have hd : decide ((k : Int) < ((p.conj.length : Nat) : Int)) = true := by simpa using hlt
    have hw := wrap_succ hlt hmc
    by_cases hlm : szL most 1 (p.conj.take k) < most
    · have hd2 : decide (szL most 1 (p.conj.take k) < most) = true := by simpa using hlm
      have hw2 : IntKind.i64.wrap (most - szL most 1 (p.conj.take k)) = most - szL most 1 (p.conj.take k) := wi (by omega)
      have bd2 := szF_bd p.conj[k] (most - szL most 1 (p.conj.take k)) (by omega)
      have hw3 : IntKind.i64.wrap (szL most 1 (p.conj.take k) + szF p.conj[k] (most - szL most 1 (p.conj.take k))) = szL most 1 (p.conj.take (k + 1)) := by
        rw [szL_take hlt hlm]; exact wi (by omega)
      have ihk := c_size p.conj[k] (most - szL most 1 (p.conj.take k)) (by omega)
      repeat' first
       | with_reducible first | refine thenQ_n ?_ | refine thenQ_r ?_ | refine thenQ_e ?_ | refine blockQ_n ?_ | refine blockQ_r ?_ | refine blockQ_e ?_ | refine tri_seq fun K hK => ?_ | refine tri_skip ?_ | refine tri_ret ?_ | refine tri_exit ?_ | refine tri_block ?_ | refine tri_region ?_ | refine sq_nil ?_
       | refine blockQ_o ?_ (by rfl)
       | ((with_reducible apply s_w); (case hw => exact xWT); first | ((with_reducible apply sg_q); (case hd => exact rfl); (case hn => exact rfl); (case he => (first | exact xE0 | ((with_reducible apply e_bi); (case hx => exact xDK); (case hy => exact xDK); (case hs => exact rfl); (case h => (simp only [binI, Int.reduceAdd, Int.reduceSub, Int.reduceMul, Int.reduceLT, Int.reduceLE, Int.reduceGT, Int.reduceEq, Int.reduceNeg, decide_true, decide_false, Bool.not_true, Bool.not_false, List.length_map, hd, hd2, hw, hw2, hw3, ixA_map hlt]; with_reducible rfl))) | ((with_reducible apply e_ix); (case hx => exact xDK); (case hi => exact xDK); (case ht => exact xTY); (case hz => exact rfl); (case he => (simp only [List.length_map, hd, hd2, hw, hw2, hw3, ixA_map hlt]; with_reducible rfl)); (case hc => exact xGS)) | ((with_reducible apply e_ln); (case hx => exact xDK); (case ht => exact xTY); (case hn => (first | (simp only [List.length_map, List.length_cons, List.length_nil, List.length_map, hd, hd2, hw, hw2, hw3, ixA_map hlt]; with_reducible rfl) | rfl))) | ((with_reducible apply e_nt); (case hx => exact xDK); (case h => (first | (simp only [Bool.not_true, Bool.not_false, List.length_map, hd, hd2, hw, hw2, hw3, ixA_map hlt]; with_reducible rfl) | rfl)))))) | (((with_reducible apply sg_k); (case ha => exact xDA); (case hfc => ((try simp only [List.length_map, hd, hd2, hw, hw2, hw3, ixA_map hlt]); first | exact ihk | (have hq_ := ihk; simp only [Prd.e_eq, Trm.e, Val.e, Col.e, Tre.e_eq] at hq_; exact hq_))); (case hr => exact xRT))) | ((with_reducible apply sg_kv); (case hv => exact rfl); (case ha => exact xDA); (case hl => exact xLs); (case hfc => ((try simp only [List.length_map, hd, hd2, hw, hw2, hw3, ixA_map hlt]); first | exact ihk | (have hq_ := ihk; simp only [Prd.e_eq, Trm.e, Val.e, Col.e, Tre.e_eq] at hq_; exact hq_))); (case hr => exact xRT)) | (((with_reducible apply sg_bx); (case hn => exact rfl); (case hv => exact xLT); (case hc => exact xGS); (case hk => exact rfl))) | (((with_reducible apply sg_al); (case hn => exact rfl); (case hz => exact xTY); (case hc => exact xGS); (case hk => exact rfl))) | (((with_reducible apply sg_st); (case hx => exact xLK); (case hv => exact xLT); (case hc => exact xGS); (case hb => exact rfl); (case ht => exact xTY); (case hz => exact rfl); (case hs => exact xGS))) | (((with_reducible apply sg_e); (case hc => (intros; simp)); (case hs => (simp only [go_sem, Nat.reduceBEq, Nat.reduceBNe, Nat.reduceLT, Nat.reduceGT, Int.reduceGT, Int.reduceMul, Int.reduceAdd, Int.reduceSub, Nat.reduceAdd, Nat.reduceMul, Nat.reduceLeDiff, Nat.reduceEqDiff, Nat.reduceSub, Int.reduceNeg, Int.reduceToNat, Int.reduceLT, Int.reduceLE, Int.reduceEq, Int.cast_ofNat_Int, decide_true, decide_false, Bool.not_true, Bool.not_false, Bool.and_self, reduceIte, reduceCtorEq, List.length_map, hd, hd2, hw, hw2, hw3, ixA_map hlt]; with_reducible rfl)))))
       | ((with_reducible apply s_n); (case hw => exact xWF); (case hd => exact rfl); (case hn => exact rfl))
       | ((with_reducible apply qs_ct); (case hc => exact xLK); (case he => exact xHB))
       | ((with_reducible apply qs_cf); (case hc => exact xLK); (case he => exact xHB))
       | ((with_reducible apply qs_cond); (case hc => exact xLK); (case hu => exact xUK); all_goals (intro hb))
       | ((with_reducible apply s_if); (case hg => exact rfl); (case hd => exact rfl); (case he => exact rfl); (case hu => exact xUK); all_goals (intro hb))
       | ((first | apply post_r | apply post_a); (case h1 => first | exact r1_t rfl rfl | (simp only [go_sem, Nat.reduceBEq, Nat.reduceBNe, Nat.reduceLT, Nat.reduceGT, Int.reduceGT, Int.reduceMul, Int.reduceAdd, Int.reduceSub, Nat.reduceAdd, Nat.reduceMul, Nat.reduceLeDiff, Nat.reduceEqDiff, Nat.reduceSub, Int.reduceNeg, Int.reduceToNat, Int.reduceLT, Int.reduceLE, Int.reduceEq, Int.cast_ofNat_Int, decide_true, decide_false, Bool.not_true, Bool.not_false, Bool.and_self, reduceIte, reduceCtorEq, List.length_map, hd, hd2, hw, hw2, hw3, ixA_map hlt]; with_reducible rfl)); (case he => simp))
       | (refine hK _ ?_; clear hK)
       | (clear hK; refine hK _ ?_; clear hK)
       | (clear hK; clear hK; refine hK _ ?_; clear hK)
       | (clear hK; clear hK; clear hK; refine hK _ ?_; clear hK)
       | (clear hK; clear hK; clear hK; clear hK; refine hK _ ?_; clear hK)
       | fail
      all_goals (repeat (clear hK))
      exact ⟨k + 1, hlt, by omega, le_of rfl (by simp [LeT, get]) (by simp [LeT, get]) (by simp [LeK, memK])⟩
    · have hd2 : decide (szL most 1 (p.conj.take k) < most) = false := by simpa using hlm
      have hst := szL_stop hlm
      repeat' first
       | with_reducible first | refine thenQ_n ?_ | refine thenQ_r ?_ | refine thenQ_e ?_ | refine blockQ_n ?_ | refine blockQ_r ?_ | refine blockQ_e ?_ | refine tri_seq fun K hK => ?_ | refine tri_skip ?_ | refine tri_ret ?_ | refine tri_exit ?_ | refine tri_block ?_ | refine tri_region ?_ | refine sq_nil ?_
       | refine blockQ_o ?_ (by rfl)
       | ((with_reducible apply s_w); (case hw => exact xWT); first | ((with_reducible apply sg_q); (case hd => exact rfl); (case hn => exact rfl); (case he => (first | exact xE0 | ((with_reducible apply e_bi); (case hx => exact xDK); (case hy => exact xDK); (case hs => exact rfl); (case h => (simp only [binI, Int.reduceAdd, Int.reduceSub, Int.reduceMul, Int.reduceLT, Int.reduceLE, Int.reduceGT, Int.reduceEq, Int.reduceNeg, decide_true, decide_false, Bool.not_true, Bool.not_false, List.length_map, hd, hd2]; with_reducible rfl))) | ((with_reducible apply e_ix); (case hx => exact xDK); (case hi => exact xDK); (case ht => exact xTY); (case hz => exact rfl); (case he => (simp only [List.length_map, hd, hd2]; with_reducible rfl)); (case hc => exact xGS)) | ((with_reducible apply e_ln); (case hx => exact xDK); (case ht => exact xTY); (case hn => (first | (simp only [List.length_map, List.length_cons, List.length_nil, List.length_map, hd, hd2]; with_reducible rfl) | rfl))) | ((with_reducible apply e_nt); (case hx => exact xDK); (case h => (first | (simp only [Bool.not_true, Bool.not_false, List.length_map, hd, hd2]; with_reducible rfl) | rfl)))))) | (((with_reducible apply sg_bx); (case hn => exact rfl); (case hv => exact xLT); (case hc => exact xGS); (case hk => exact rfl))) | (((with_reducible apply sg_al); (case hn => exact rfl); (case hz => exact xTY); (case hc => exact xGS); (case hk => exact rfl))) | (((with_reducible apply sg_st); (case hx => exact xLK); (case hv => exact xLT); (case hc => exact xGS); (case hb => exact rfl); (case ht => exact xTY); (case hz => exact rfl); (case hs => exact xGS))) | (((with_reducible apply sg_e); (case hc => (intros; simp)); (case hs => (simp only [go_sem, Nat.reduceBEq, Nat.reduceBNe, Nat.reduceLT, Nat.reduceGT, Int.reduceGT, Int.reduceMul, Int.reduceAdd, Int.reduceSub, Nat.reduceAdd, Nat.reduceMul, Nat.reduceLeDiff, Nat.reduceEqDiff, Nat.reduceSub, Int.reduceNeg, Int.reduceToNat, Int.reduceLT, Int.reduceLE, Int.reduceEq, Int.cast_ofNat_Int, decide_true, decide_false, Bool.not_true, Bool.not_false, Bool.and_self, reduceIte, reduceCtorEq, List.length_map, hd, hd2]; with_reducible rfl)))))
       | ((with_reducible apply s_n); (case hw => exact xWF); (case hd => exact rfl); (case hn => exact rfl))
       | ((with_reducible apply qs_ct); (case hc => exact xLK); (case he => exact xHB))
       | ((with_reducible apply qs_cf); (case hc => exact xLK); (case he => exact xHB))
       | ((with_reducible apply qs_cond); (case hc => exact xLK); (case hu => exact xUK); all_goals (intro hb))
       | ((with_reducible apply s_if); (case hg => exact rfl); (case hd => exact rfl); (case he => exact rfl); (case hu => exact xUK); all_goals (intro hb))
       | ((first | apply post_r | apply post_a); (case h1 => first | exact r1_t rfl rfl | (simp only [go_sem, Nat.reduceBEq, Nat.reduceBNe, Nat.reduceLT, Nat.reduceGT, Int.reduceGT, Int.reduceMul, Int.reduceAdd, Int.reduceSub, Nat.reduceAdd, Nat.reduceMul, Nat.reduceLeDiff, Nat.reduceEqDiff, Nat.reduceSub, Int.reduceNeg, Int.reduceToNat, Int.reduceLT, Int.reduceLE, Int.reduceEq, Int.cast_ofNat_Int, decide_true, decide_false, Bool.not_true, Bool.not_false, Bool.and_self, reduceIte, reduceCtorEq, List.length_map, hd, hd2]; with_reducible rfl)); (case he => simp))
       | (refine hK _ ?_; clear hK)
       | (clear hK; refine hK _ ?_; clear hK)
       | (clear hK; clear hK; refine hK _ ?_; clear hK)
       | (clear hK; clear hK; clear hK; refine hK _ ?_; clear hK)
       | (clear hK; clear hK; clear hK; clear hK; refine hK _ ?_; clear hK)
       | fail
      refine tri_for (fun k : Nat => ⟨55, [(7, .v (.int .i64 (k : Int))), (5, .v (.int .i64 (tszL most (szL most 1 p.conj) (p.kids.take k)))), (2, .loc 2 0), (1, .v (.int .i64 most))], [(2, [.v (.int .i64 p.kind), .v (.int .i64 p.table), .v (.sl 5 (p.kids.map Tre.e)), .v (.sl 14 (p.conj.map Prd.e)), .v (.bool p.hash)])], []⟩) (fun k => k ≤ p.kids.length) (fun k => p.kids.length - k) 0 ?_ (Nat.zero_le _) ?_
      · exact le_of rfl (by simp [LeT, get, tszL, hst]) (by simp [LeT, get]) (by simp [LeK, memK])
      clear hk
      intro j hj
      have bdc := szL_bd (most := most) p.conj 1 (by omega) hmost.1
      have bdk := tszL_bd (most := most) (p.kids.take j) _ bdc.1 bdc.2
      by_cases hjt : j < p.kids.length
      · have hd' : decide ((j : Int) < ((p.kids.length : Nat) : Int)) = true := by simpa using hjt
        have hw' := wrap_succ hjt hmk
        by_cases hjm : tszL most (szL most 1 p.conj) (p.kids.take j) < most
        · have hd2' : decide (tszL most (szL most 1 p.conj) (p.kids.take j) < most) = true := by simpa using hjm
          have hw2' : IntKind.i64.wrap (most - tszL most (szL most 1 p.conj) (p.kids.take j)) = most - tszL most (szL most 1 p.conj) (p.kids.take j) := wi (by omega)
          have bd2' := tszF_bd p.kids[j] (most - tszL most (szL most 1 p.conj) (p.kids.take j)) (by omega)
          have hw3' : IntKind.i64.wrap (tszL most (szL most 1 p.conj) (p.kids.take j) + tszF p.kids[j] (most - tszL most (szL most 1 p.conj) (p.kids.take j))) = tszL most (szL most 1 p.conj) (p.kids.take (j + 1)) := by
            rw [tszL_take hjt hjm]; exact wi (by omega)
          have ihk := ih p.kids[j] (List.getElem_mem hjt) (most - tszL most (szL most 1 p.conj) (p.kids.take j)) (by omega)
          repeat' first
           | with_reducible first | refine thenQ_n ?_ | refine thenQ_r ?_ | refine thenQ_e ?_ | refine blockQ_n ?_ | refine blockQ_r ?_ | refine blockQ_e ?_ | refine tri_seq fun K hK => ?_ | refine tri_skip ?_ | refine tri_ret ?_ | refine tri_exit ?_ | refine tri_block ?_ | refine tri_region ?_ | refine sq_nil ?_
           | refine blockQ_o ?_ (by rfl)
           | ((with_reducible apply s_w); (case hw => exact xWT); first | ((with_reducible apply sg_q); (case hd => exact rfl); (case hn => exact rfl); (case he => (first | exact xE0 | ((with_reducible apply e_bi); (case hx => exact xDK); (case hy => exact xDK); (case hs => exact rfl); (case h => (simp only [binI, Int.reduceAdd, Int.reduceSub, Int.reduceMul, Int.reduceLT, Int.reduceLE, Int.reduceGT, Int.reduceEq, Int.reduceNeg, decide_true, decide_false, Bool.not_true, Bool.not_false, List.length_map, hd', hd2', hw', hw2', hw3', ixA_map hjt]; with_reducible rfl))) | ((with_reducible apply e_ix); (case hx => exact xDK); (case hi => exact xDK); (case ht => exact xTY); (case hz => exact rfl); (case he => (simp only [List.length_map, hd', hd2', hw', hw2', hw3', ixA_map hjt]; with_reducible rfl)); (case hc => exact xGS)) | ((with_reducible apply e_ln); (case hx => exact xDK); (case ht => exact xTY); (case hn => (first | (simp only [List.length_map, List.length_cons, List.length_nil, List.length_map, hd', hd2', hw', hw2', hw3', ixA_map hjt]; with_reducible rfl) | rfl))) | ((with_reducible apply e_nt); (case hx => exact xDK); (case h => (first | (simp only [Bool.not_true, Bool.not_false, List.length_map, hd', hd2', hw', hw2', hw3', ixA_map hjt]; with_reducible rfl) | rfl)))))) | (((with_reducible apply sg_k); (case ha => exact xDA); (case hfc => ((try simp only [List.length_map, hd', hd2', hw', hw2', hw3', ixA_map hjt]); first | exact ihk | (have hq_ := ihk; simp only [Prd.e_eq, Trm.e, Val.e, Col.e, Tre.e_eq] at hq_; exact hq_))); (case hr => exact xRT))) | ((with_reducible apply sg_kv); (case hv => exact rfl); (case ha => exact xDA); (case hl => exact xLs); (case hfc => ((try simp only [List.length_map, hd', hd2', hw', hw2', hw3', ixA_map hjt]); first | exact ihk | (have hq_ := ihk; simp only [Prd.e_eq, Trm.e, Val.e, Col.e, Tre.e_eq] at hq_; exact hq_))); (case hr => exact xRT)) | (((with_reducible apply sg_bx); (case hn => exact rfl); (case hv => exact xLT); (case hc => exact xGS); (case hk => exact rfl))) | (((with_reducible apply sg_al); (case hn => exact rfl); (case hz => exact xTY); (case hc => exact xGS); (case hk => exact rfl))) | (((with_reducible apply sg_st); (case hx => exact xLK); (case hv => exact xLT); (case hc => exact xGS); (case hb => exact rfl); (case ht => exact xTY); (case hz => exact rfl); (case hs => exact xGS))) | (((with_reducible apply sg_e); (case hc => (intros; simp)); (case hs => (simp only [go_sem, Nat.reduceBEq, Nat.reduceBNe, Nat.reduceLT, Nat.reduceGT, Int.reduceGT, Int.reduceMul, Int.reduceAdd, Int.reduceSub, Nat.reduceAdd, Nat.reduceMul, Nat.reduceLeDiff, Nat.reduceEqDiff, Nat.reduceSub, Int.reduceNeg, Int.reduceToNat, Int.reduceLT, Int.reduceLE, Int.reduceEq, Int.cast_ofNat_Int, decide_true, decide_false, Bool.not_true, Bool.not_false, Bool.and_self, reduceIte, reduceCtorEq, List.length_map, hd', hd2', hw', hw2', hw3', ixA_map hjt]; with_reducible rfl)))))
           | ((with_reducible apply s_n); (case hw => exact xWF); (case hd => exact rfl); (case hn => exact rfl))
           | ((with_reducible apply qs_ct); (case hc => exact xLK); (case he => exact xHB))
           | ((with_reducible apply qs_cf); (case hc => exact xLK); (case he => exact xHB))
           | ((with_reducible apply qs_cond); (case hc => exact xLK); (case hu => exact xUK); all_goals (intro hb))
           | ((with_reducible apply s_if); (case hg => exact rfl); (case hd => exact rfl); (case he => exact rfl); (case hu => exact xUK); all_goals (intro hb))
           | ((first | apply post_r | apply post_a); (case h1 => first | exact r1_t rfl rfl | (simp only [go_sem, Nat.reduceBEq, Nat.reduceBNe, Nat.reduceLT, Nat.reduceGT, Int.reduceGT, Int.reduceMul, Int.reduceAdd, Int.reduceSub, Nat.reduceAdd, Nat.reduceMul, Nat.reduceLeDiff, Nat.reduceEqDiff, Nat.reduceSub, Int.reduceNeg, Int.reduceToNat, Int.reduceLT, Int.reduceLE, Int.reduceEq, Int.cast_ofNat_Int, decide_true, decide_false, Bool.not_true, Bool.not_false, Bool.and_self, reduceIte, reduceCtorEq, List.length_map, hd', hd2', hw', hw2', hw3', ixA_map hjt]; with_reducible rfl)); (case he => simp))
           | (refine hK _ ?_; clear hK)
           | (clear hK; refine hK _ ?_; clear hK)
           | (clear hK; clear hK; refine hK _ ?_; clear hK)
           | (clear hK; clear hK; clear hK; refine hK _ ?_; clear hK)
           | (clear hK; clear hK; clear hK; clear hK; refine hK _ ?_; clear hK)
           | fail
          all_goals (repeat (clear hK))
          exact ⟨j + 1, hjt, by omega, le_of rfl (by simp [LeT, get]) (by simp [LeT, get]) (by simp [LeK, memK])⟩
        · have hd2' : decide (tszL most (szL most 1 p.conj) (p.kids.take j) < most) = false := by simpa using hjm
          repeat' first
           | with_reducible first | refine thenQ_n ?_ | refine thenQ_r ?_ | refine thenQ_e ?_ | refine blockQ_n ?_ | refine blockQ_r ?_ | refine blockQ_e ?_ | refine tri_seq fun K hK => ?_ | refine tri_skip ?_ | refine tri_ret ?_ | refine tri_exit ?_ | refine tri_block ?_ | refine tri_region ?_ | refine sq_nil ?_
           | refine blockQ_o ?_ (by rfl)
           | ((with_reducible apply s_w); (case hw => exact xWT); first | ((with_reducible apply sg_q); (case hd => exact rfl); (case hn => exact rfl); (case he => (first | exact xE0 | ((with_reducible apply e_bi); (case hx => exact xDK); (case hy => exact xDK); (case hs => exact rfl); (case h => (simp only [binI, Int.reduceAdd, Int.reduceSub, Int.reduceMul, Int.reduceLT, Int.reduceLE, Int.reduceGT, Int.reduceEq, Int.reduceNeg, decide_true, decide_false, Bool.not_true, Bool.not_false, List.length_map, hd', hd2']; with_reducible rfl))) | ((with_reducible apply e_ix); (case hx => exact xDK); (case hi => exact xDK); (case ht => exact xTY); (case hz => exact rfl); (case he => (simp only [List.length_map, hd', hd2']; with_reducible rfl)); (case hc => exact xGS)) | ((with_reducible apply e_ln); (case hx => exact xDK); (case ht => exact xTY); (case hn => (first | (simp only [List.length_map, List.length_cons, List.length_nil, List.length_map, hd', hd2']; with_reducible rfl) | rfl))) | ((with_reducible apply e_nt); (case hx => exact xDK); (case h => (first | (simp only [Bool.not_true, Bool.not_false, List.length_map, hd', hd2']; with_reducible rfl) | rfl)))))) | (((with_reducible apply sg_bx); (case hn => exact rfl); (case hv => exact xLT); (case hc => exact xGS); (case hk => exact rfl))) | (((with_reducible apply sg_al); (case hn => exact rfl); (case hz => exact xTY); (case hc => exact xGS); (case hk => exact rfl))) | (((with_reducible apply sg_st); (case hx => exact xLK); (case hv => exact xLT); (case hc => exact xGS); (case hb => exact rfl); (case ht => exact xTY); (case hz => exact rfl); (case hs => exact xGS))) | (((with_reducible apply sg_e); (case hc => (intros; simp)); (case hs => (simp only [go_sem, Nat.reduceBEq, Nat.reduceBNe, Nat.reduceLT, Nat.reduceGT, Int.reduceGT, Int.reduceMul, Int.reduceAdd, Int.reduceSub, Nat.reduceAdd, Nat.reduceMul, Nat.reduceLeDiff, Nat.reduceEqDiff, Nat.reduceSub, Int.reduceNeg, Int.reduceToNat, Int.reduceLT, Int.reduceLE, Int.reduceEq, Int.cast_ofNat_Int, decide_true, decide_false, Bool.not_true, Bool.not_false, Bool.and_self, reduceIte, reduceCtorEq, List.length_map, hd', hd2']; with_reducible rfl)))))
           | ((with_reducible apply s_n); (case hw => exact xWF); (case hd => exact rfl); (case hn => exact rfl))
           | ((with_reducible apply qs_ct); (case hc => exact xLK); (case he => exact xHB))
           | ((with_reducible apply qs_cf); (case hc => exact xLK); (case he => exact xHB))
           | ((with_reducible apply qs_cond); (case hc => exact xLK); (case hu => exact xUK); all_goals (intro hb))
           | ((with_reducible apply s_if); (case hg => exact rfl); (case hd => exact rfl); (case he => exact rfl); (case hu => exact xUK); all_goals (intro hb))
           | ((first | apply post_r | apply post_a); (case h1 => first | exact r1_t rfl rfl | (simp only [go_sem, Nat.reduceBEq, Nat.reduceBNe, Nat.reduceLT, Nat.reduceGT, Int.reduceGT, Int.reduceMul, Int.reduceAdd, Int.reduceSub, Nat.reduceAdd, Nat.reduceMul, Nat.reduceLeDiff, Nat.reduceEqDiff, Nat.reduceSub, Int.reduceNeg, Int.reduceToNat, Int.reduceLT, Int.reduceLE, Int.reduceEq, Int.cast_ofNat_Int, decide_true, decide_false, Bool.not_true, Bool.not_false, Bool.and_self, reduceIte, reduceCtorEq, List.length_map, hd', hd2']; with_reducible rfl)); (case he => simp))
           | (refine hK _ ?_; clear hK)
           | (clear hK; refine hK _ ?_; clear hK)
           | (clear hK; clear hK; refine hK _ ?_; clear hK)
           | (clear hK; clear hK; clear hK; refine hK _ ?_; clear hK)
           | (clear hK; clear hK; clear hK; clear hK; refine hK _ ?_; clear hK)
           | fail
          all_goals (repeat (clear hK))
          rw [tszF_eq, tszL_stop hjm]
      · have hd' : decide ((j : Int) < ((p.kids.length : Nat) : Int)) = false := by simpa using hjt
        obtain rfl : j = p.kids.length := by omega
        repeat' first
         | with_reducible first | refine thenQ_n ?_ | refine thenQ_r ?_ | refine thenQ_e ?_ | refine blockQ_n ?_ | refine blockQ_r ?_ | refine blockQ_e ?_ | refine tri_seq fun K hK => ?_ | refine tri_skip ?_ | refine tri_ret ?_ | refine tri_exit ?_ | refine tri_block ?_ | refine tri_region ?_ | refine sq_nil ?_
         | refine blockQ_o ?_ (by rfl)
         | ((with_reducible apply s_w); (case hw => exact xWT); first | ((with_reducible apply sg_q); (case hd => exact rfl); (case hn => exact rfl); (case he => (first | exact xE0 | ((with_reducible apply e_bi); (case hx => exact xDK); (case hy => exact xDK); (case hs => exact rfl); (case h => (simp only [binI, Int.reduceAdd, Int.reduceSub, Int.reduceMul, Int.reduceLT, Int.reduceLE, Int.reduceGT, Int.reduceEq, Int.reduceNeg, decide_true, decide_false, Bool.not_true, Bool.not_false, List.length_map, hd']; with_reducible rfl))) | ((with_reducible apply e_ix); (case hx => exact xDK); (case hi => exact xDK); (case ht => exact xTY); (case hz => exact rfl); (case he => (simp only [List.length_map, hd']; with_reducible rfl)); (case hc => exact xGS)) | ((with_reducible apply e_ln); (case hx => exact xDK); (case ht => exact xTY); (case hn => (first | (simp only [List.length_map, List.length_cons, List.length_nil, List.length_map, hd']; with_reducible rfl) | rfl))) | ((with_reducible apply e_nt); (case hx => exact xDK); (case h => (first | (simp only [Bool.not_true, Bool.not_false, List.length_map, hd']; with_reducible rfl) | rfl)))))) | (((with_reducible apply sg_bx); (case hn => exact rfl); (case hv => exact xLT); (case hc => exact xGS); (case hk => exact rfl))) | (((with_reducible apply sg_al); (case hn => exact rfl); (case hz => exact xTY); (case hc => exact xGS); (case hk => exact rfl))) | (((with_reducible apply sg_st); (case hx => exact xLK); (case hv => exact xLT); (case hc => exact xGS); (case hb => exact rfl); (case ht => exact xTY); (case hz => exact rfl); (case hs => exact xGS))) | (((with_reducible apply sg_e); (case hc => (intros; simp)); (case hs => (simp only [go_sem, Nat.reduceBEq, Nat.reduceBNe, Nat.reduceLT, Nat.reduceGT, Int.reduceGT, Int.reduceMul, Int.reduceAdd, Int.reduceSub, Nat.reduceAdd, Nat.reduceMul, Nat.reduceLeDiff, Nat.reduceEqDiff, Nat.reduceSub, Int.reduceNeg, Int.reduceToNat, Int.reduceLT, Int.reduceLE, Int.reduceEq, Int.cast_ofNat_Int, decide_true, decide_false, Bool.not_true, Bool.not_false, Bool.and_self, reduceIte, reduceCtorEq, List.length_map, hd']; with_reducible rfl)))))
         | ((with_reducible apply s_n); (case hw => exact xWF); (case hd => exact rfl); (case hn => exact rfl))
         | ((with_reducible apply qs_ct); (case hc => exact xLK); (case he => exact xHB))
         | ((with_reducible apply qs_cf); (case hc => exact xLK); (case he => exact xHB))
         | ((with_reducible apply qs_cond); (case hc => exact xLK); (case hu => exact xUK); all_goals (intro hb))
         | ((with_reducible apply s_if); (case hg => exact rfl); (case hd => exact rfl); (case he => exact rfl); (case hu => exact xUK); all_goals (intro hb))
         | ((first | apply post_r | apply post_a); (case h1 => first | exact r1_t rfl rfl | (simp only [go_sem, Nat.reduceBEq, Nat.reduceBNe, Nat.reduceLT, Nat.reduceGT, Int.reduceGT, Int.reduceMul, Int.reduceAdd, Int.reduceSub, Nat.reduceAdd, Nat.reduceMul, Nat.reduceLeDiff, Nat.reduceEqDiff, Nat.reduceSub, Int.reduceNeg, Int.reduceToNat, Int.reduceLT, Int.reduceLE, Int.reduceEq, Int.cast_ofNat_Int, decide_true, decide_false, Bool.not_true, Bool.not_false, Bool.and_self, reduceIte, reduceCtorEq, List.length_map, hd']; with_reducible rfl)); (case he => simp))
         | (refine hK _ ?_; clear hK)
         | (clear hK; refine hK _ ?_; clear hK)
         | (clear hK; clear hK; refine hK _ ?_; clear hK)
         | (clear hK; clear hK; clear hK; refine hK _ ?_; clear hK)
         | (clear hK; clear hK; clear hK; clear hK; refine hK _ ?_; clear hK)
         | fail
        all_goals (repeat (clear hK))
        simp [tszF_eq]
  · have hd : decide ((k : Int) < ((p.conj.length : Nat) : Int)) = false := by simpa using hlt
    obtain rfl : k = p.conj.length := by omega
    have hst : szL most 1 p.conj = szL most 1 (p.conj.take p.conj.length) := by rw [List.take_length]
    repeat' first
     | with_reducible first | refine thenQ_n ?_ | refine thenQ_r ?_ | refine thenQ_e ?_ | refine blockQ_n ?_ | refine blockQ_r ?_ | refine blockQ_e ?_ | refine tri_seq fun K hK => ?_ | refine tri_skip ?_ | refine tri_ret ?_ | refine tri_exit ?_ | refine tri_block ?_ | refine tri_region ?_ | refine sq_nil ?_
     | refine blockQ_o ?_ (by rfl)
     | ((with_reducible apply s_w); (case hw => exact xWT); first | ((with_reducible apply sg_q); (case hd => exact rfl); (case hn => exact rfl); (case he => (first | exact xE0 | ((with_reducible apply e_bi); (case hx => exact xDK); (case hy => exact xDK); (case hs => exact rfl); (case h => (simp only [binI, Int.reduceAdd, Int.reduceSub, Int.reduceMul, Int.reduceLT, Int.reduceLE, Int.reduceGT, Int.reduceEq, Int.reduceNeg, decide_true, decide_false, Bool.not_true, Bool.not_false, List.length_map, hd]; with_reducible rfl))) | ((with_reducible apply e_ix); (case hx => exact xDK); (case hi => exact xDK); (case ht => exact xTY); (case hz => exact rfl); (case he => (simp only [List.length_map, hd]; with_reducible rfl)); (case hc => exact xGS)) | ((with_reducible apply e_ln); (case hx => exact xDK); (case ht => exact xTY); (case hn => (first | (simp only [List.length_map, List.length_cons, List.length_nil, List.length_map, hd]; with_reducible rfl) | rfl))) | ((with_reducible apply e_nt); (case hx => exact xDK); (case h => (first | (simp only [Bool.not_true, Bool.not_false, List.length_map, hd]; with_reducible rfl) | rfl)))))) | (((with_reducible apply sg_bx); (case hn => exact rfl); (case hv => exact xLT); (case hc => exact xGS); (case hk => exact rfl))) | (((with_reducible apply sg_al); (case hn => exact rfl); (case hz => exact xTY); (case hc => exact xGS); (case hk => exact rfl))) | (((with_reducible apply sg_st); (case hx => exact xLK); (case hv => exact xLT); (case hc => exact xGS); (case hb => exact rfl); (case ht => exact xTY); (case hz => exact rfl); (case hs => exact xGS))) | (((with_reducible apply sg_e); (case hc => (intros; simp)); (case hs => (simp only [go_sem, Nat.reduceBEq, Nat.reduceBNe, Nat.reduceLT, Nat.reduceGT, Int.reduceGT, Int.reduceMul, Int.reduceAdd, Int.reduceSub, Nat.reduceAdd, Nat.reduceMul, Nat.reduceLeDiff, Nat.reduceEqDiff, Nat.reduceSub, Int.reduceNeg, Int.reduceToNat, Int.reduceLT, Int.reduceLE, Int.reduceEq, Int.cast_ofNat_Int, decide_true, decide_false, Bool.not_true, Bool.not_false, Bool.and_self, reduceIte, reduceCtorEq, List.length_map, hd]; with_reducible rfl)))))
     | ((with_reducible apply s_n); (case hw => exact xWF); (case hd => exact rfl); (case hn => exact rfl))
     | ((with_reducible apply qs_ct); (case hc => exact xLK); (case he => exact xHB))
     | ((with_reducible apply qs_cf); (case hc => exact xLK); (case he => exact xHB))
     | ((with_reducible apply qs_cond); (case hc => exact xLK); (case hu => exact xUK); all_goals (intro hb))
     | ((with_reducible apply s_if); (case hg => exact rfl); (case hd => exact rfl); (case he => exact rfl); (case hu => exact xUK); all_goals (intro hb))
     | ((first | apply post_r | apply post_a); (case h1 => first | exact r1_t rfl rfl | (simp only [go_sem, Nat.reduceBEq, Nat.reduceBNe, Nat.reduceLT, Nat.reduceGT, Int.reduceGT, Int.reduceMul, Int.reduceAdd, Int.reduceSub, Nat.reduceAdd, Nat.reduceMul, Nat.reduceLeDiff, Nat.reduceEqDiff, Nat.reduceSub, Int.reduceNeg, Int.reduceToNat, Int.reduceLT, Int.reduceLE, Int.reduceEq, Int.cast_ofNat_Int, decide_true, decide_false, Bool.not_true, Bool.not_false, Bool.and_self, reduceIte, reduceCtorEq, List.length_map, hd]; with_reducible rfl)); (case he => simp))
     | (refine hK _ ?_; clear hK)
     | (clear hK; refine hK _ ?_; clear hK)
     | (clear hK; clear hK; refine hK _ ?_; clear hK)
     | (clear hK; clear hK; clear hK; refine hK _ ?_; clear hK)
     | (clear hK; clear hK; clear hK; clear hK; refine hK _ ?_; clear hK)
     | fail
    refine tri_for (fun k : Nat => ⟨55, [(7, .v (.int .i64 (k : Int))), (5, .v (.int .i64 (tszL most (szL most 1 p.conj) (p.kids.take k)))), (2, .loc 2 0), (1, .v (.int .i64 most))], [(2, [.v (.int .i64 p.kind), .v (.int .i64 p.table), .v (.sl 5 (p.kids.map Tre.e)), .v (.sl 14 (p.conj.map Prd.e)), .v (.bool p.hash)])], []⟩) (fun k => k ≤ p.kids.length) (fun k => p.kids.length - k) 0 ?_ (Nat.zero_le _) ?_
    · exact le_of rfl (by simp [LeT, get, tszL, hst]) (by simp [LeT, get]) (by simp [LeK, memK])
    clear hk
    intro j hj
    have bdc := szL_bd (most := most) p.conj 1 (by omega) hmost.1
    have bdk := tszL_bd (most := most) (p.kids.take j) _ bdc.1 bdc.2
    by_cases hjt : j < p.kids.length
    · have hd' : decide ((j : Int) < ((p.kids.length : Nat) : Int)) = true := by simpa using hjt
      have hw' := wrap_succ hjt hmk
      by_cases hjm : tszL most (szL most 1 p.conj) (p.kids.take j) < most
      · have hd2' : decide (tszL most (szL most 1 p.conj) (p.kids.take j) < most) = true := by simpa using hjm
        have hw2' : IntKind.i64.wrap (most - tszL most (szL most 1 p.conj) (p.kids.take j)) = most - tszL most (szL most 1 p.conj) (p.kids.take j) := wi (by omega)
        have bd2' := tszF_bd p.kids[j] (most - tszL most (szL most 1 p.conj) (p.kids.take j)) (by omega)
        have hw3' : IntKind.i64.wrap (tszL most (szL most 1 p.conj) (p.kids.take j) + tszF p.kids[j] (most - tszL most (szL most 1 p.conj) (p.kids.take j))) = tszL most (szL most 1 p.conj) (p.kids.take (j + 1)) := by
          rw [tszL_take hjt hjm]; exact wi (by omega)
        have ihk := ih p.kids[j] (List.getElem_mem hjt) (most - tszL most (szL most 1 p.conj) (p.kids.take j)) (by omega)
        repeat' first
         | with_reducible first | refine thenQ_n ?_ | refine thenQ_r ?_ | refine thenQ_e ?_ | refine blockQ_n ?_ | refine blockQ_r ?_ | refine blockQ_e ?_ | refine tri_seq fun K hK => ?_ | refine tri_skip ?_ | refine tri_ret ?_ | refine tri_exit ?_ | refine tri_block ?_ | refine tri_region ?_ | refine sq_nil ?_
         | refine blockQ_o ?_ (by rfl)
         | ((with_reducible apply s_w); (case hw => exact xWT); first | ((with_reducible apply sg_q); (case hd => exact rfl); (case hn => exact rfl); (case he => (first | exact xE0 | ((with_reducible apply e_bi); (case hx => exact xDK); (case hy => exact xDK); (case hs => exact rfl); (case h => (simp only [binI, Int.reduceAdd, Int.reduceSub, Int.reduceMul, Int.reduceLT, Int.reduceLE, Int.reduceGT, Int.reduceEq, Int.reduceNeg, decide_true, decide_false, Bool.not_true, Bool.not_false, List.length_map, hd', hd2', hw', hw2', hw3', ixA_map hjt]; with_reducible rfl))) | ((with_reducible apply e_ix); (case hx => exact xDK); (case hi => exact xDK); (case ht => exact xTY); (case hz => exact rfl); (case he => (simp only [List.length_map, hd', hd2', hw', hw2', hw3', ixA_map hjt]; with_reducible rfl)); (case hc => exact xGS)) | ((with_reducible apply e_ln); (case hx => exact xDK); (case ht => exact xTY); (case hn => (first | (simp only [List.length_map, List.length_cons, List.length_nil, List.length_map, hd', hd2', hw', hw2', hw3', ixA_map hjt]; with_reducible rfl) | rfl))) | ((with_reducible apply e_nt); (case hx => exact xDK); (case h => (first | (simp only [Bool.not_true, Bool.not_false, List.length_map, hd', hd2', hw', hw2', hw3', ixA_map hjt]; with_reducible rfl) | rfl)))))) | (((with_reducible apply sg_k); (case ha => exact xDA); (case hfc => ((try simp only [List.length_map, hd', hd2', hw', hw2', hw3', ixA_map hjt]); first | exact ihk | (have hq_ := ihk; simp only [Prd.e_eq, Trm.e, Val.e, Col.e, Tre.e_eq] at hq_; exact hq_))); (case hr => exact xRT))) | ((with_reducible apply sg_kv); (case hv => exact rfl); (case ha => exact xDA); (case hl => exact xLs); (case hfc => ((try simp only [List.length_map, hd', hd2', hw', hw2', hw3', ixA_map hjt]); first | exact ihk | (have hq_ := ihk; simp only [Prd.e_eq, Trm.e, Val.e, Col.e, Tre.e_eq] at hq_; exact hq_))); (case hr => exact xRT)) | (((with_reducible apply sg_bx); (case hn => exact rfl); (case hv => exact xLT); (case hc => exact xGS); (case hk => exact rfl))) | (((with_reducible apply sg_al); (case hn => exact rfl); (case hz => exact xTY); (case hc => exact xGS); (case hk => exact rfl))) | (((with_reducible apply sg_st); (case hx => exact xLK); (case hv => exact xLT); (case hc => exact xGS); (case hb => exact rfl); (case ht => exact xTY); (case hz => exact rfl); (case hs => exact xGS))) | (((with_reducible apply sg_e); (case hc => (intros; simp)); (case hs => (simp only [go_sem, Nat.reduceBEq, Nat.reduceBNe, Nat.reduceLT, Nat.reduceGT, Int.reduceGT, Int.reduceMul, Int.reduceAdd, Int.reduceSub, Nat.reduceAdd, Nat.reduceMul, Nat.reduceLeDiff, Nat.reduceEqDiff, Nat.reduceSub, Int.reduceNeg, Int.reduceToNat, Int.reduceLT, Int.reduceLE, Int.reduceEq, Int.cast_ofNat_Int, decide_true, decide_false, Bool.not_true, Bool.not_false, Bool.and_self, reduceIte, reduceCtorEq, List.length_map, hd', hd2', hw', hw2', hw3', ixA_map hjt]; with_reducible rfl)))))
         | ((with_reducible apply s_n); (case hw => exact xWF); (case hd => exact rfl); (case hn => exact rfl))
         | ((with_reducible apply qs_ct); (case hc => exact xLK); (case he => exact xHB))
         | ((with_reducible apply qs_cf); (case hc => exact xLK); (case he => exact xHB))
         | ((with_reducible apply qs_cond); (case hc => exact xLK); (case hu => exact xUK); all_goals (intro hb))
         | ((with_reducible apply s_if); (case hg => exact rfl); (case hd => exact rfl); (case he => exact rfl); (case hu => exact xUK); all_goals (intro hb))
         | ((first | apply post_r | apply post_a); (case h1 => first | exact r1_t rfl rfl | (simp only [go_sem, Nat.reduceBEq, Nat.reduceBNe, Nat.reduceLT, Nat.reduceGT, Int.reduceGT, Int.reduceMul, Int.reduceAdd, Int.reduceSub, Nat.reduceAdd, Nat.reduceMul, Nat.reduceLeDiff, Nat.reduceEqDiff, Nat.reduceSub, Int.reduceNeg, Int.reduceToNat, Int.reduceLT, Int.reduceLE, Int.reduceEq, Int.cast_ofNat_Int, decide_true, decide_false, Bool.not_true, Bool.not_false, Bool.and_self, reduceIte, reduceCtorEq, List.length_map, hd', hd2', hw', hw2', hw3', ixA_map hjt]; with_reducible rfl)); (case he => simp))
         | (refine hK _ ?_; clear hK)
         | (clear hK; refine hK _ ?_; clear hK)
         | (clear hK; clear hK; refine hK _ ?_; clear hK)
         | (clear hK; clear hK; clear hK; refine hK _ ?_; clear hK)
         | (clear hK; clear hK; clear hK; clear hK; refine hK _ ?_; clear hK)
         | fail
        all_goals (repeat (clear hK))
        exact ⟨j + 1, hjt, by omega, le_of rfl (by simp [LeT, get]) (by simp [LeT, get]) (by simp [LeK, memK])⟩
      · have hd2' : decide (tszL most (szL most 1 p.conj) (p.kids.take j) < most) = false := by simpa using hjm
        repeat' first
         | with_reducible first | refine thenQ_n ?_ | refine thenQ_r ?_ | refine thenQ_e ?_ | refine blockQ_n ?_ | refine blockQ_r ?_ | refine blockQ_e ?_ | refine tri_seq fun K hK => ?_ | refine tri_skip ?_ | refine tri_ret ?_ | refine tri_exit ?_ | refine tri_block ?_ | refine tri_region ?_ | refine sq_nil ?_
         | refine blockQ_o ?_ (by rfl)
         | ((with_reducible apply s_w); (case hw => exact xWT); first | ((with_reducible apply sg_q); (case hd => exact rfl); (case hn => exact rfl); (case he => (first | exact xE0 | ((with_reducible apply e_bi); (case hx => exact xDK); (case hy => exact xDK); (case hs => exact rfl); (case h => (simp only [binI, Int.reduceAdd, Int.reduceSub, Int.reduceMul, Int.reduceLT, Int.reduceLE, Int.reduceGT, Int.reduceEq, Int.reduceNeg, decide_true, decide_false, Bool.not_true, Bool.not_false, List.length_map, hd', hd2']; with_reducible rfl))) | ((with_reducible apply e_ix); (case hx => exact xDK); (case hi => exact xDK); (case ht => exact xTY); (case hz => exact rfl); (case he => (simp only [List.length_map, hd', hd2']; with_reducible rfl)); (case hc => exact xGS)) | ((with_reducible apply e_ln); (case hx => exact xDK); (case ht => exact xTY); (case hn => (first | (simp only [List.length_map, List.length_cons, List.length_nil, List.length_map, hd', hd2']; with_reducible rfl) | rfl))) | ((with_reducible apply e_nt); (case hx => exact xDK); (case h => (first | (simp only [Bool.not_true, Bool.not_false, List.length_map, hd', hd2']; with_reducible rfl) | rfl)))))) | (((with_reducible apply sg_bx); (case hn => exact rfl); (case hv => exact xLT); (case hc => exact xGS); (case hk => exact rfl))) | (((with_reducible apply sg_al); (case hn => exact rfl); (case hz => exact xTY); (case hc => exact xGS); (case hk => exact rfl))) | (((with_reducible apply sg_st); (case hx => exact xLK); (case hv => exact xLT); (case hc => exact xGS); (case hb => exact rfl); (case ht => exact xTY); (case hz => exact rfl); (case hs => exact xGS))) | (((with_reducible apply sg_e); (case hc => (intros; simp)); (case hs => (simp only [go_sem, Nat.reduceBEq, Nat.reduceBNe, Nat.reduceLT, Nat.reduceGT, Int.reduceGT, Int.reduceMul, Int.reduceAdd, Int.reduceSub, Nat.reduceAdd, Nat.reduceMul, Nat.reduceLeDiff, Nat.reduceEqDiff, Nat.reduceSub, Int.reduceNeg, Int.reduceToNat, Int.reduceLT, Int.reduceLE, Int.reduceEq, Int.cast_ofNat_Int, decide_true, decide_false, Bool.not_true, Bool.not_false, Bool.and_self, reduceIte, reduceCtorEq, List.length_map, hd', hd2']; with_reducible rfl)))))
         | ((with_reducible apply s_n); (case hw => exact xWF); (case hd => exact rfl); (case hn => exact rfl))
         | ((with_reducible apply qs_ct); (case hc => exact xLK); (case he => exact xHB))
         | ((with_reducible apply qs_cf); (case hc => exact xLK); (case he => exact xHB))
         | ((with_reducible apply qs_cond); (case hc => exact xLK); (case hu => exact xUK); all_goals (intro hb))
         | ((with_reducible apply s_if); (case hg => exact rfl); (case hd => exact rfl); (case he => exact rfl); (case hu => exact xUK); all_goals (intro hb))
         | ((first | apply post_r | apply post_a); (case h1 => first | exact r1_t rfl rfl | (simp only [go_sem, Nat.reduceBEq, Nat.reduceBNe, Nat.reduceLT, Nat.reduceGT, Int.reduceGT, Int.reduceMul, Int.reduceAdd, Int.reduceSub, Nat.reduceAdd, Nat.reduceMul, Nat.reduceLeDiff, Nat.reduceEqDiff, Nat.reduceSub, Int.reduceNeg, Int.reduceToNat, Int.reduceLT, Int.reduceLE, Int.reduceEq, Int.cast_ofNat_Int, decide_true, decide_false, Bool.not_true, Bool.not_false, Bool.and_self, reduceIte, reduceCtorEq, List.length_map, hd', hd2']; with_reducible rfl)); (case he => simp))
         | (refine hK _ ?_; clear hK)
         | (clear hK; refine hK _ ?_; clear hK)
         | (clear hK; clear hK; refine hK _ ?_; clear hK)
         | (clear hK; clear hK; clear hK; refine hK _ ?_; clear hK)
         | (clear hK; clear hK; clear hK; clear hK; refine hK _ ?_; clear hK)
         | fail
        all_goals (repeat (clear hK))
        rw [tszF_eq, tszL_stop hjm]
    · have hd' : decide ((j : Int) < ((p.kids.length : Nat) : Int)) = false := by simpa using hjt
      obtain rfl : j = p.kids.length := by omega
      repeat' first
       | with_reducible first | refine thenQ_n ?_ | refine thenQ_r ?_ | refine thenQ_e ?_ | refine blockQ_n ?_ | refine blockQ_r ?_ | refine blockQ_e ?_ | refine tri_seq fun K hK => ?_ | refine tri_skip ?_ | refine tri_ret ?_ | refine tri_exit ?_ | refine tri_block ?_ | refine tri_region ?_ | refine sq_nil ?_
       | refine blockQ_o ?_ (by rfl)
       | ((with_reducible apply s_w); (case hw => exact xWT); first | ((with_reducible apply sg_q); (case hd => exact rfl); (case hn => exact rfl); (case he => (first | exact xE0 | ((with_reducible apply e_bi); (case hx => exact xDK); (case hy => exact xDK); (case hs => exact rfl); (case h => (simp only [binI, Int.reduceAdd, Int.reduceSub, Int.reduceMul, Int.reduceLT, Int.reduceLE, Int.reduceGT, Int.reduceEq, Int.reduceNeg, decide_true, decide_false, Bool.not_true, Bool.not_false, List.length_map, hd']; with_reducible rfl))) | ((with_reducible apply e_ix); (case hx => exact xDK); (case hi => exact xDK); (case ht => exact xTY); (case hz => exact rfl); (case he => (simp only [List.length_map, hd']; with_reducible rfl)); (case hc => exact xGS)) | ((with_reducible apply e_ln); (case hx => exact xDK); (case ht => exact xTY); (case hn => (first | (simp only [List.length_map, List.length_cons, List.length_nil, List.length_map, hd']; with_reducible rfl) | rfl))) | ((with_reducible apply e_nt); (case hx => exact xDK); (case h => (first | (simp only [Bool.not_true, Bool.not_false, List.length_map, hd']; with_reducible rfl) | rfl)))))) | (((with_reducible apply sg_bx); (case hn => exact rfl); (case hv => exact xLT); (case hc => exact xGS); (case hk => exact rfl))) | (((with_reducible apply sg_al); (case hn => exact rfl); (case hz => exact xTY); (case hc => exact xGS); (case hk => exact rfl))) | (((with_reducible apply sg_st); (case hx => exact xLK); (case hv => exact xLT); (case hc => exact xGS); (case hb => exact rfl); (case ht => exact xTY); (case hz => exact rfl); (case hs => exact xGS))) | (((with_reducible apply sg_e); (case hc => (intros; simp)); (case hs => (simp only [go_sem, Nat.reduceBEq, Nat.reduceBNe, Nat.reduceLT, Nat.reduceGT, Int.reduceGT, Int.reduceMul, Int.reduceAdd, Int.reduceSub, Nat.reduceAdd, Nat.reduceMul, Nat.reduceLeDiff, Nat.reduceEqDiff, Nat.reduceSub, Int.reduceNeg, Int.reduceToNat, Int.reduceLT, Int.reduceLE, Int.reduceEq, Int.cast_ofNat_Int, decide_true, decide_false, Bool.not_true, Bool.not_false, Bool.and_self, reduceIte, reduceCtorEq, List.length_map, hd']; with_reducible rfl)))))
       | ((with_reducible apply s_n); (case hw => exact xWF); (case hd => exact rfl); (case hn => exact rfl))
       | ((with_reducible apply qs_ct); (case hc => exact xLK); (case he => exact xHB))
       | ((with_reducible apply qs_cf); (case hc => exact xLK); (case he => exact xHB))
       | ((with_reducible apply qs_cond); (case hc => exact xLK); (case hu => exact xUK); all_goals (intro hb))
       | ((with_reducible apply s_if); (case hg => exact rfl); (case hd => exact rfl); (case he => exact rfl); (case hu => exact xUK); all_goals (intro hb))
       | ((first | apply post_r | apply post_a); (case h1 => first | exact r1_t rfl rfl | (simp only [go_sem, Nat.reduceBEq, Nat.reduceBNe, Nat.reduceLT, Nat.reduceGT, Int.reduceGT, Int.reduceMul, Int.reduceAdd, Int.reduceSub, Nat.reduceAdd, Nat.reduceMul, Nat.reduceLeDiff, Nat.reduceEqDiff, Nat.reduceSub, Int.reduceNeg, Int.reduceToNat, Int.reduceLT, Int.reduceLE, Int.reduceEq, Int.cast_ofNat_Int, decide_true, decide_false, Bool.not_true, Bool.not_false, Bool.and_self, reduceIte, reduceCtorEq, List.length_map, hd']; with_reducible rfl)); (case he => simp))
       | (refine hK _ ?_; clear hK)
       | (clear hK; refine hK _ ?_; clear hK)
       | (clear hK; clear hK; refine hK _ ?_; clear hK)
       | (clear hK; clear hK; clear hK; refine hK _ ?_; clear hK)
       | (clear hK; clear hK; clear hK; clear hK; refine hK _ ?_; clear hK)
       | fail
      all_goals (repeat (clear hK))
      simp [tszF_eq]

end Go.Proofs.Ytigkkfhpnfjmhaa.AL
