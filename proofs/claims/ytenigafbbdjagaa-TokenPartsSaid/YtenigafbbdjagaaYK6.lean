/- Plain facts: tokens by the program and by the reference are the same. -/
import Derived.Test.YtenigafbbdjagaaYK5
namespace Go.Proofs.Ytenigafbbdjagaa.AL
open Go Go.Proofs
set_option linter.unusedVariables false
def refR (l : List Int) : Nat → Nat → List Tkn → List Tkn × Nat × Int
  | 0, _, out => (out, l.length, 0)
  | f + 1, i, out =>
    if i < l.length then
      if blankF (l.getD i 0) = true then refR l f (i + 1) out
      else if kindF (l.getD i 0) = 0 then ([], i, 1)
      else refR l f (endK l i) (out ++ [⟨kindF (l.getD i 0), encL ((l.drop i).take (endK l i - i)), i⟩])
    else (out, l.length, 0)
theorem endK_gt {l : List Int} {i : Nat} (hk : kindF (l.getD i 0) ≠ 0) : i < endK l i := by
  unfold endK
  rcases kind_cases (l.getD i 0) with ⟨a1, a4⟩ | ⟨a1, a2, a4⟩ | ⟨a1, a2, a3, a4⟩ | ⟨a1, a2, a3, a4⟩
  · rw [if_pos a1]; have := scan_ge wordP l (i + 1); omega
  · rw [a1, a2]; simp only [Bool.false_eq_true, if_false, if_true]; have := scan_ge digitF l (i + 1); omega
  · rw [a1, a2, a3]; simp only [Bool.false_eq_true, if_false, if_true]; split <;> omega
  · exact absurd a4 hk
theorem endK_le {l : List Int} {i : Nat} (hi : i < l.length) : endK l i ≤ l.length := by
  unfold endK
  split
  · exact scan_le hi
  · split
    · exact scan_le hi
    · split
      · split
        · rename_i h
          unfold twoF at h
          simp only [Bool.and_eq_true, decide_eq_true_eq] at h
          omega
        · omega
      · omega
theorem refR_more (l : List Int) : ∀ (f g i : Nat) (out : List Tkn), l.length - i ≤ f → l.length - i ≤ g → refR l f i out = refR l g i out
  | 0, 0, i, out, _, _ => rfl
  | 0, g + 1, i, out, h, _ => by unfold refR; rw [if_neg (by omega)]
  | f + 1, 0, i, out, _, h => by unfold refR; rw [if_neg (by omega)]
  | f + 1, g + 1, i, out, h1, h2 => by
    unfold refR
    by_cases hi : i < l.length
    · rw [if_pos hi, if_pos hi]
      by_cases hb : blankF (l.getD i 0) = true
      · rw [if_pos hb, if_pos hb]; exact refR_more l f g _ _ (by omega) (by omega)
      · rw [if_neg hb, if_neg hb]
        by_cases hk : kindF (l.getD i 0) = 0
        · rw [if_pos hk, if_pos hk]
        · rw [if_neg hk, if_neg hk]
          have := endK_gt hk
          exact refR_more l f g _ _ (by omega) (by omega)
    · rw [if_neg hi, if_neg hi]
def refG (l : List Int) (i : Nat) (out : List Tkn) : List Tkn × Nat × Int := refR l (l.length - i) i out
theorem refG_step {l : List Int} {i : Nat} (hi : i < l.length) (out : List Tkn) : refG l i out =
    if blankF (l.getD i 0) = true then refG l (i + 1) out else if kindF (l.getD i 0) = 0 then ([], i, 1)
    else refG l (endK l i) (out ++ [⟨kindF (l.getD i 0), encL ((l.drop i).take (endK l i - i)), i⟩]) := by
  unfold refG
  conv => lhs; rw [show l.length - i = (l.length - i - 1) + 1 by omega, refR, if_pos hi]
  by_cases hb : blankF (l.getD i 0) = true
  · rw [if_pos hb, if_pos hb]; exact refR_more l _ _ _ _ (by omega) (by omega)
  · rw [if_neg hb, if_neg hb]
    by_cases hk : kindF (l.getD i 0) = 0
    · rw [if_pos hk, if_pos hk]
    · rw [if_neg hk, if_neg hk]
      have := endK_gt hk
      exact refR_more l _ _ _ _ (by omega) (by omega)
theorem refG_end {l : List Int} {i : Nat} (hi : ¬ i < l.length) (out : List Tkn) : refG l i out = (out, l.length, 0) := by
  unfold refG
  rw [show l.length - i = 0 by omega]; rfl
/-- What no rune goes on is told. -/
theorem flush_eq {l : List Int} {k : Nat} {out : List Tkn} {op : Tkn} (hz : op.kind ≠ 0) (hg : ∀ (h : k < l.length), goesF op.kind op.text l[k] = false) : tokR (l.drop k) out op k = tokR (l.drop k) (out ++ [op]) zeroT k := by
  have f1 : flushF out op = out ++ [op] := by unfold flushF; rw [if_neg hz]
  have f2 : flushF (out ++ [op]) zeroT = out ++ [op] := by unfold flushF zeroT; simp
  have g0 : ∀ r, goesF zeroT.kind zeroT.text r = false := fun r => by simp [goesF, zeroT]
  by_cases h : k < l.length
  · rw [List.drop_eq_getElem_cons h]
    unfold tokR
    rw [hg h, g0, f1, f2]
    simp only [Bool.false_eq_true, if_false]
  · rw [List.drop_eq_nil_of_le (by omega)]
    unfold tokR
    rw [f1, f2]
theorem take_step {l : List Int} {k e : Nat} (h : k < l.length) (he : k < e) : encL ((l.drop k).take (e - k)) = encB l[k] ++ encL ((l.drop (k + 1)).take (e - (k + 1))) := by
  rw [List.drop_eq_getElem_cons h, show e - k = (e - (k + 1)) + 1 by omega, List.take_succ_cons]
  simp [encL]
/-- Words and numbers go on as long as they may. -/
theorem scan_tok {p : Int → Bool} {K : Int} (hK : K ≠ 0) (hp : ∀ s r, goesF K s r = p r) (l : List Int) (i0 : Int) (out : List Tkn) : ∀ (n k : Nat) (t : List UInt8), l.length - k = n →
    tokR (l.drop k) out ⟨K, t, i0⟩ k = tokR (l.drop (scanF p l k)) (out ++ [⟨K, t ++ encL ((l.drop k).take (scanF p l k - k)), i0⟩]) zeroT (scanF p l k)
  | n, k, t, hn => by
    by_cases h : k < l.length
    · cases hpk : p l[k]
      · rw [scan_no h hpk, Nat.sub_self, List.take_zero, show encL [] = [] from rfl, List.append_nil]
        exact flush_eq hK fun _ => by rw [hp]; exact hpk
      · have hs := scan_go h hpk
        have hge := scan_ge p l (k + 1)
        have ih := scan_tok hK hp l i0 out (n - 1) (k + 1) (t ++ encB l[k]) (by omega)
        rw [hs, take_step h (by omega), ← List.append_assoc, ← ih, List.drop_eq_getElem_cons h]
        conv => lhs; unfold tokR
        rw [hp, hpk, if_pos rfl]
    · rw [scan_end h, Nat.sub_self, List.take_zero, show encL [] = [] from rfl, List.append_nil]
      exact flush_eq hK fun h' => absurd h' h
termination_by n => n
decreasing_by omega
theorem goes1 (s : List UInt8) (r : Int) : goesF 1 s r = wordP r := by simp [goesF, wordP]
theorem goes2 (s : List UInt8) (r : Int) : goesF 2 s r = digitF r := by simp [goesF]
theorem sign_is {r : Int} (h : signF r = true) : r = 40 ∨ r = 41 ∨ r = 44 ∨ r = 46 ∨ r = 61 ∨ r = 60 ∨ r = 62 ∨ r = 45 := by
  unfold signF at h; simpa using h
theorem encB_dec : encB 60 = [60] ∧ encB 62 = [62] ∧ encB 61 = [61] ∧ encB 40 = [40] ∧ encB 41 = [41] ∧ encB 44 = [44] ∧ encB 46 = [46] ∧ encB 45 = [45] := by decide +kernel
theorem goes3 {r : Int} (h : signF r = true) (x : Int) : goesF 3 (encB r) x = twoP r x := by
  obtain ⟨e1, e2, e3, e4, e5, e6, e7, e8⟩ := encB_dec
  unfold goesF twoP
  rcases sign_is h with rfl | rfl | rfl | rfl | rfl | rfl | rfl | rfl <;> simp [e1, e2, e3, e4, e5, e6, e7, e8]
theorem goes3b {r x : Int} (h : signF r = true) (h2 : twoP r x = true) (y : Int) : goesF 3 (encB r ++ encB x) y = false := by
  obtain ⟨e1, e2, e3, e4, e5, e6, e7, e8⟩ := encB_dec
  unfold twoP at h2
  simp only [Bool.or_eq_true, Bool.and_eq_true, decide_eq_true_eq] at h2
  rcases h2 with ⟨rfl, rfl | rfl⟩ | ⟨rfl, rfl⟩ <;> simp [goesF, e1, e2, e3]
theorem tok_one {l : List Int} {i : Nat} (hi : i < l.length) (hk : kindF l[i] ≠ 0) (out : List Tkn) :
    tokR (l.drop (i + 1)) out ⟨kindF l[i], encB l[i], (i : Int)⟩ (i + 1) = tokR (l.drop (endK l i)) (out ++ [⟨kindF l[i], encL ((l.drop i).take (endK l i - i)), (i : Int)⟩]) zeroT (endK l i) := by
  have hg := getD_at hi
  rcases kind_cases l[i] with ⟨a1, a4⟩ | ⟨a1, a2, a4⟩ | ⟨a1, a2, a3, a4⟩ | ⟨a1, a2, a3, a4⟩
  · have hE : endK l i = scanF wordP l (i + 1) := by unfold endK; rw [hg, a1]; rfl
    have hge := scan_ge wordP l (i + 1)
    rw [a4, hE, take_step hi (by omega)]
    exact scan_tok (by omega) goes1 l i out _ (i + 1) _ rfl
  · have hE : endK l i = scanF digitF l (i + 1) := by unfold endK; rw [hg, a1, a2]; rfl
    have hge := scan_ge digitF l (i + 1)
    rw [a4, hE, take_step hi (by omega)]
    exact scan_tok (by omega) goes2 l i out _ (i + 1) _ rfl
  · have hE : endK l i = if twoF l i = true then i + 2 else i + 1 := by unfold endK; rw [hg, a1, a2, a3]; rfl
    rw [a4]
    by_cases hlt : i + 1 < l.length
    · have hT : twoF l i = twoP l[i] l[i + 1] := by
        unfold twoF
        rw [hg, getD_at hlt]
        simp [hlt]
      cases h2 : twoP l[i] l[i + 1]
      · rw [hT, h2] at hE
        simp only [Bool.false_eq_true, if_false] at hE
        rw [hE, take_step hi (by omega), Nat.sub_self, List.take_zero, show encL [] = [] from rfl, List.append_nil]
        exact flush_eq (by simp) fun _ => by rw [goes3 a3]; exact h2
      · rw [hT, h2] at hE
        simp only [if_true] at hE
        rw [hE, take_step hi (by omega), take_step hlt (by omega), show i + 2 - (i + 1 + 1) = 0 by omega, List.take_zero, show encL [] = [] from rfl, List.append_nil, List.drop_eq_getElem_cons hlt]
        conv => lhs; unfold tokR
        rw [goes3 a3, h2, if_pos rfl]
        exact flush_eq (k := i + 2) (op := ⟨3, encB l[i] ++ encB l[i + 1], i⟩) (by simp) fun _ => goes3b a3 h2 _
    · have hT : twoF l i = false := by simp [twoF, hlt]
      rw [hT] at hE
      simp only [Bool.false_eq_true, if_false] at hE
      rw [hE, take_step hi (by omega), Nat.sub_self, List.take_zero, show encL [] = [] from rfl, List.append_nil]
      exact flush_eq (by simp) fun h' => absurd h' hlt
  · exact absurd a4 hk
theorem tok_ref (l : List Int) : ∀ (n i : Nat) (out : List Tkn), l.length - i = n → i ≤ l.length → tokR (l.drop i) out zeroT i = refG l i out
  | n, i, out, hn, hil => by
    have g0 : ∀ r, goesF zeroT.kind zeroT.text r = false := fun r => by simp [goesF, zeroT]
    have f0 : flushF out zeroT = out := by unfold flushF zeroT; simp
    by_cases hi : i < l.length
    · rw [refG_step hi, List.drop_eq_getElem_cons hi, getD_at hi]
      unfold tokR
      rw [g0, f0]
      simp only [Bool.false_eq_true, if_false]
      by_cases hb : blankF l[i] = true
      · rw [if_pos hb, if_pos hb]; exact tok_ref l (n - 1) (i + 1) out (by omega) (by omega)
      · rw [if_neg hb, if_neg hb]
        by_cases hk : kindF l[i] = 0
        · rw [if_pos hk, if_pos hk]
        · rw [if_neg hk, if_neg hk, tok_one hi hk, ← List.drop_eq_getElem_cons hi]
          have h1 := endK_gt (l := l) (i := i) (by rw [getD_at hi]; exact hk)
          have h2 := endK_le hi
          exact tok_ref l (l.length - endK l i) (endK l i) _ rfl h2
    · rw [refG_end hi, List.drop_eq_nil_of_le (by omega)]
      unfold tokR
      rw [f0, show i = l.length by omega]
termination_by n => n
decreasing_by all_goals omega
theorem tokens_ref (s : List UInt8) : tokensF s = if 65536 < s.length then ([], 0, 2) else refG (runesF s) 0 [] := by
  unfold tokensF
  split
  · rfl
  · exact tok_ref (runesF s) _ 0 [] rfl (Nat.zero_le _)
end Go.Proofs.Ytenigafbbdjagaa.AL
