/- Plain facts: what tokens are parts of; that they come back of their text. -/
import Derived.Test.YtenigafbbdjagaaYR1
import Derived.Test.YtenigafbbdjagaaYR2
import Derived.Test.YtenigafbbdjagaaYK6
namespace Go.Proofs.Ytenigafbbdjagaa.AL
open Go Go.Proofs
set_option linter.unusedVariables false
theorem decX_valid (i n b0 b1 b2 b3 : Nat) : Utf8.valid ((decX i n b0 b1 b2 b3).1 : Int) = true := by
  have small : ∀ c : Nat, c < 0xD800 → Utf8.valid (c : Int) = true := fun c h => by
    unfold Utf8.valid
    simp only [Bool.or_eq_true, Bool.and_eq_true, decide_eq_true_eq]
    omega
  have e : Utf8.valid ((Utf8.runeError : Nat) : Int) = true := by decide
  unfold decX
  split
  · exact small _ (by omega)
  · split
    · split
      · exact small _ (by simp only; omega)
      · exact e
    · split
      · split
        · rename_i h; simp only [Bool.and_eq_true] at h; exact h.2
        · exact e
      · split
        · split
          · rename_i h; simp only [Bool.and_eq_true] at h; exact h.2
          · exact e
        · exact e
theorem decB_valid (s : List UInt8) (p : Nat) : Utf8.valid ((decB s p).1 : Int) = true := by
  unfold decB
  rw [decode_X]; exact decX_valid _ _ _ _ _ _
theorem runesU_valid (s : List UInt8) : ∀ (f p : Nat), ∀ r ∈ runesU s f p, Utf8.valid r = true
  | 0, _, r, h => by simp [runesU] at h
  | f + 1, p, r, h => by
    unfold runesU at h
    split at h
    · rcases List.mem_cons.1 h with rfl | h
      · exact decB_valid s p
      · exact runesU_valid s f _ r h
    · simp at h
theorem runesF_valid (s : List UInt8) : ∀ r ∈ runesF s, Utf8.valid r = true := runesU_valid s _ _
theorem encL_len : ∀ rs : List Int, (encL rs).length ≤ 4 * rs.length
  | [] => Nat.le_refl _
  | r :: rs => by
    have ih := encL_len rs
    have he := encB_len r
    have e : encL (r :: rs) = encB r ++ encL rs := rfl
    rw [e, List.length_append, List.length_cons]; omega
theorem encL_append (a b : List Int) : encL (a ++ b) = encL a ++ encL b := by simp [encL]
theorem encL_one (r : Int) : encL [r] = encB r := by simp [encL]
/-! ### Words -/
structure WordT (K : Int) (rs : List Int) : Prop where
  ne : ∃ r rest, rs = r :: rest ∧ kindF r = K
  kz : K ≠ 0
  ch : ∀ a x b, rs = a ++ x :: b → a ≠ [] → goesF K (encL a) x = true
  vd : ∀ r ∈ rs, Utf8.valid r = true
theorem WordT.one {r : Int} (hk : kindF r ≠ 0) (hv : Utf8.valid r = true) : WordT (kindF r) [r] :=
  ⟨⟨r, [], rfl, rfl⟩, hk, fun a x b h ha => by
    cases a with
    | nil => exact absurd rfl ha
    | cons y a => simp at h, fun x hx => by rw [List.mem_singleton] at hx; rw [hx]; exact hv⟩
theorem WordT.snoc {K : Int} {rs : List Int} {x : Int} (h : WordT K rs) (hg : goesF K (encL rs) x = true) (hv : Utf8.valid x = true) : WordT K (rs ++ [x]) := by
  obtain ⟨⟨r, rest, e, hk⟩, kz, ch, vd⟩ := h
  refine ⟨⟨r, rest ++ [x], by rw [e]; rfl, hk⟩, kz, fun a y b hab ha => ?_, fun z hz => ?_⟩
  · rcases List.eq_nil_or_concat b with rfl | ⟨b', z, rfl⟩
    · have := List.append_inj' hab rfl
      obtain ⟨rfl, h2⟩ := this
      simp only [List.cons.injEq, and_true] at h2
      rw [← h2]; exact hg
    · have h2 : rs ++ [x] = (a ++ y :: b') ++ [z] := by rw [hab]; simp
      exact ch a y b' (List.append_inj' h2 rfl).1 ha
  · rcases List.mem_append.1 hz with hz | hz
    · exact vd z hz
    · rw [List.mem_singleton] at hz; rw [hz]; exact hv
theorem WordT.pos {K : Int} {rs : List Int} (h : WordT K rs) : 0 < rs.length := by
  obtain ⟨⟨r, rest, e, _⟩, _⟩ := h; rw [e]; simp
theorem WordT.kind {K : Int} {rs : List Int} (h : WordT K rs) : 1 ≤ K ∧ K ≤ 3 := by
  obtain ⟨⟨r, rest, e, hk⟩, kz, _⟩ := h
  rcases kind_cases r with ⟨_, a4⟩ | ⟨_, _, a4⟩ | ⟨_, _, _, a4⟩ | ⟨_, _, _, a4⟩ <;> omega
/-- A token that stands at a place. -/
structure TokAt (R : List Int) (p : Nat) (rs : List Int) (t : Tkn) : Prop where
  pos : t.pos = (p : Int)
  word : WordT t.kind rs
  text : t.text = encL rs
  part : (R.drop p).take rs.length = rs
theorem TokAt.le {R : List Int} {p : Nat} {rs : List Int} {t : Tkn} (h : TokAt R p rs t) : p + rs.length ≤ R.length := by
  have h1 := congrArg List.length h.part
  have h2 := h.word.pos
  rw [List.length_take, List.length_drop] at h1
  omega
def SegT (R : List Int) : Nat → List Tkn → Nat → Prop
  | lo, [], hi => lo ≤ hi
  | lo, t :: ts, hi => ∃ (p : Nat) (rs : List Int), lo ≤ p ∧ TokAt R p rs t ∧ SegT R (p + rs.length) ts hi
theorem SegT.snoc {R : List Int} {p : Nat} {rs : List Int} {t : Tkn} (ht : TokAt R p rs t) : ∀ {l : List Tkn} {lo hi : Nat}, SegT R lo l hi → hi ≤ p → SegT R lo (l ++ [t]) (p + rs.length)
  | [], lo, hi, h, hp => ⟨p, rs, Nat.le_trans h hp, ht, Nat.le_refl _⟩
  | u :: l, lo, hi, h, hp => by
    obtain ⟨q, us, h1, h2, h3⟩ := h
    exact ⟨q, us, h1, h2, SegT.snoc ht h3 hp⟩
def OpT (R : List Int) (h i : Nat) (op : Tkn) : Prop := (op.kind = 0 ∧ h ≤ i) ∨ ∃ p rs, h ≤ p ∧ p + rs.length = i ∧ TokAt R p rs op
theorem OpT.flush {R : List Int} {h i : Nat} {op : Tkn} {out : List Tkn} (ho : OpT R h i op) (hs : SegT R 0 out h) : ∃ h', h' ≤ i ∧ SegT R 0 (flushF out op) h' := by
  rcases ho with ⟨h1, h2⟩ | ⟨p, rs, h1, h2, h3⟩
  · exact ⟨h, h2, by unfold flushF; rw [if_pos h1]; exact hs⟩
  · exact ⟨p + rs.length, by omega, by unfold flushF; rw [if_neg h3.word.kz]; exact SegT.snoc h3 hs h1⟩
theorem part_snoc {R : List Int} {p i : Nat} {rs : List Int} (h : (R.drop p).take rs.length = rs) (hi : i < R.length) (e : p + rs.length = i) : (R.drop p).take (rs ++ [R[i]]).length = rs ++ [R[i]] := by
  have hlt : rs.length < (R.drop p).length := by rw [List.length_drop]; omega
  have e2 : (R.drop p)[rs.length] = R[i] := by
    rw [List.getElem_drop]
    congr 1
  rw [List.length_append, List.length_singleton, List.take_succ_eq_append_getElem hlt, h, e2]
theorem tokR_seg (R : List Int) (hv : ∀ r ∈ R, Utf8.valid r = true) : ∀ (n i : Nat) (out : List Tkn) (op : Tkn) (h : Nat), R.length - i = n → i ≤ R.length → SegT R 0 out h → OpT R h i op →
    ((tokR (R.drop i) out op i).2.2 = 0 ∧ (tokR (R.drop i) out op i).2.1 = R.length ∧ ∃ h', SegT R 0 (tokR (R.drop i) out op i).1 h') ∨
    ((tokR (R.drop i) out op i).2.2 = 1 ∧ (tokR (R.drop i) out op i).2.1 < R.length ∧ (tokR (R.drop i) out op i).1 = [])
  | n, i, out, op, h, hn, hil, hs, ho => by
    obtain ⟨h', hf1, hf2⟩ := ho.flush hs
    by_cases hi : i < R.length
    · have hvr := hv R[i] (List.getElem_mem hi)
      rw [List.drop_eq_getElem_cons hi]
      unfold tokR
      by_cases hg : goesF op.kind op.text R[i] = true
      · rw [if_pos hg]
        refine tokR_seg R hv (n - 1) (i + 1) out _ h (by omega) (by omega) hs ?_
        rcases ho with ⟨h1, _⟩ | ⟨p, rs, h1, h2, h3⟩
        · rw [h1] at hg; simp [goesF] at hg
        · refine .inr ⟨p, rs ++ [R[i]], h1, by simp; omega, ⟨h3.pos, ?_, ?_, part_snoc h3.part hi h2⟩⟩
          · have := h3.text; rw [this] at hg; exact h3.word.snoc hg hvr
          · rw [encL_append, encL_one, ← h3.text]
      · rw [if_neg hg]
        by_cases hb : blankF R[i] = true
        · rw [if_pos hb]
          exact tokR_seg R hv (n - 1) (i + 1) _ zeroT h' (by omega) (by omega) hf2 (.inl ⟨rfl, by omega⟩)
        · rw [if_neg hb]
          by_cases hk : kindF R[i] = 0
          · rw [if_pos hk]
            exact .inr ⟨rfl, hi, rfl⟩
          · rw [if_neg hk]
            refine tokR_seg R hv (n - 1) (i + 1) _ _ h' (by omega) (by omega) hf2 (.inr ⟨i, [R[i]], hf1, by simp, ⟨rfl, WordT.one hk hvr, (encL_one _).symm, ?_⟩⟩)
            have := part_snoc (R := R) (p := i) (i := i) (rs := []) (by simp) hi (by simp)
            simpa using this
    · rw [List.drop_eq_nil_of_le (by omega)]
      unfold tokR
      exact .inl ⟨rfl, by simp only; omega, h', hf2⟩
termination_by n => n
decreasing_by all_goals omega
theorem tokens_seg {s : List UInt8} (hs : ¬ 65536 < s.length) :
    ((tokensF s).2.2 = 0 ∧ (tokensF s).2.1 = (runesF s).length ∧ ∃ h, SegT (runesF s) 0 (tokensF s).1 h) ∨ ((tokensF s).2.2 = 1 ∧ (tokensF s).2.1 < (runesF s).length ∧ (tokensF s).1 = []) := by
  have h := tokR_seg (runesF s) (runesF_valid s) _ 0 [] zeroT 0 rfl (Nat.zero_le _) (Nat.le_refl _) (.inl ⟨rfl, Nat.le_refl _⟩)
  rw [List.drop_zero] at h
  unfold tokensF
  rw [if_neg hs]
  exact h
/-! ### Back -/
def Ws : List Tkn → List (List Int) → Prop
  | [], [] => True
  | t :: ts, rs :: rss => WordT t.kind rs ∧ t.text = encL rs ∧ Ws ts rss
  | _, _ => False
theorem SegT.ws {R : List Int} : ∀ {l : List Tkn} {lo hi : Nat}, SegT R lo l hi → ∃ rss, Ws l rss
  | [], _, _, _ => ⟨[], trivial⟩
  | t :: l, lo, hi, h => by
    obtain ⟨p, rs, _, h2, h3⟩ := h
    obtain ⟨rss, hr⟩ := SegT.ws h3
    exact ⟨rs :: rss, h2.word, h2.text, hr⟩
def joinR : List (List Int) → List Int
  | [] => []
  | [rs] => rs
  | rs :: r2 :: rss => rs ++ 32 :: joinR (r2 :: rss)
theorem enc_blank : encB 32 = [32] ∧ encB 9 = [9] ∧ encB 10 = [10] := by decide +kernel
theorem txt_join : ∀ (l : List Tkn) (rss : List (List Int)), Ws l rss → txtF l = encL (joinR rss) ∧ ∀ r ∈ joinR rss, Utf8.valid r = true
  | [], [], _ => ⟨rfl, fun r h => by simp [joinR] at h⟩
  | [t], [rs], h => ⟨by rw [txtF_one, h.2.1]; rfl, h.1.vd⟩
  | t :: u :: l, rs :: r2 :: rss, h => by
    obtain ⟨h1, h2, h3⟩ := h
    obtain ⟨e, hv⟩ := txt_join (u :: l) (r2 :: rss) h3
    have e1 : txtF (t :: u :: l) = t.text ++ [32] ++ txtF (u :: l) := by
      unfold txtF
      rw [List.map_cons, List.map_cons, Lib.join_cons, Lib.join_cons]
      simp [Lib.joinTail]
    refine ⟨?_, fun r hr => ?_⟩
    · rw [e1, e, h2]
      show _ = encL (rs ++ 32 :: joinR (r2 :: rss))
      rw [encL_append, List.append_assoc]
      have e9 : encL (32 :: joinR (r2 :: rss)) = [32] ++ encL (joinR (r2 :: rss)) := by
        have : encL (32 :: joinR (r2 :: rss)) = encB 32 ++ encL (joinR (r2 :: rss)) := rfl
        rw [this, enc_blank.1]
      rw [e9]
    · have hr' : r ∈ rs ++ 32 :: joinR (r2 :: rss) := hr
      rcases List.mem_append.1 hr' with hr | hr
      · exact h1.vd r hr
      · rcases List.mem_cons.1 hr with rfl | hr
        · decide
        · exact hv r hr
  | [], _ :: _, h => h.elim
  | _ :: _, [], h => h.elim
  | [_], _ :: _ :: _, h => h.2.2.elim
  | _ :: _ :: _, [_], h => h.2.2.elim
theorem goes_blank (K : Int) (t : List UInt8) {x : Int} (h : x = 32 ∨ x = 9 ∨ x = 10) : goesF K t x = false := by
  rcases h with rfl | rfl | rfl <;> simp [goesF, letterF, digitF]
theorem blank_is {x : Int} (h : x = 32 ∨ x = 9 ∨ x = 10) : blankF x = true := by
  rcases h with rfl | rfl | rfl <;> decide
theorem tok_blank {x : Int} (h : x = 32 ∨ x = 9 ∨ x = 10) (l : List Int) (out : List Tkn) (op : Tkn) (i : Nat) : tokR (x :: l) out op i = tokR l (flushF out op) zeroT (i + 1) := by
  conv => lhs; unfold tokR
  rw [goes_blank _ _ h, blank_is h]
  simp
theorem tok_go {K : Int} (rest : List Int) (out : List Tkn) (p : Int) : ∀ (b a : List Int) (j : Nat), a ≠ [] → (∀ a' x b', a ++ b = a' ++ x :: b' → a' ≠ [] → goesF K (encL a') x = true) →
    tokR (b ++ rest) out ⟨K, encL a, p⟩ j = tokR rest out ⟨K, encL (a ++ b), p⟩ (j + b.length)
  | [], a, j, _, _ => by simp
  | x :: b, a, j, ha, h => by
    have hg := h a x b rfl ha
    rw [List.cons_append]
    conv => lhs; unfold tokR
    rw [if_pos hg]
    have ih := tok_go rest out p b (a ++ [x]) (j + 1) (by simp) (by simpa using h)
    rw [encL_append, encL_one] at ih
    simp only
    rw [ih]
    simp only [List.append_assoc, List.singleton_append, List.length_cons]
    rw [show j + 1 + b.length = j + (b.length + 1) by omega]
theorem kind_blank {r : Int} (h : kindF r ≠ 0) : blankF r = false := by
  cases hb : blankF r
  · rfl
  · exfalso; apply h
    rcases blank3 hb with d | ⟨_, d⟩ | ⟨_, _, d⟩ <;> (simp only [decide_eq_true_eq] at d; subst d; decide)
theorem tok_word {K : Int} {rs : List Int} (hw : WordT K rs) (rest : List Int) (out : List Tkn) (i : Nat) : tokR (rs ++ rest) out zeroT i = tokR rest out ⟨K, encL rs, (i : Int)⟩ (i + rs.length) := by
  obtain ⟨⟨r, b, e, hk⟩, kz, ch, vd⟩ := hw
  subst e
  have g0 : goesF zeroT.kind zeroT.text r = false := by simp [goesF, zeroT]
  have f0 : flushF out zeroT = out := by unfold flushF zeroT; simp
  have hkr : kindF r ≠ 0 := by rw [hk]; exact kz
  rw [List.cons_append]
  conv => lhs; unfold tokR
  rw [g0, kind_blank hkr, f0, hk]
  simp only [Bool.false_eq_true, if_false]
  rw [if_neg kz]
  have ih := tok_go (K := K) rest out (i : Int) b [r] (i + 1) (by simp) (fun a' x b' h ha => ch a' x b' h ha)
  rw [encL_one] at ih
  rw [ih]
  simp only [List.singleton_append, List.length_cons]
  rw [show i + 1 + b.length = i + (b.length + 1) by omega]
def ktF (t : Tkn) : Int × List UInt8 := (t.kind, t.text)
theorem tok_back : ∀ (l : List Tkn) (rss : List (List Int)) (out : List Tkn) (i : Nat), Ws l rss →
    ∃ ms n, tokR (joinR rss ++ [10]) out zeroT i = (out ++ ms, n, 0) ∧ ms.map ktF = l.map ktF
  | [], [], out, i, _ => by
    have f0 : flushF out zeroT = out := by unfold flushF zeroT; simp
    refine ⟨[], i + 1, ?_, rfl⟩
    show tokR (10 :: []) out zeroT i = _
    rw [tok_blank (.inr (.inr rfl)), f0]
    unfold tokR
    rw [f0, List.append_nil]
  | [t], [rs], out, i, h => by
    obtain ⟨h1, h2, _⟩ := h
    refine ⟨[⟨t.kind, encL rs, i⟩], i + rs.length + 1, ?_, by simp [ktF, h2]⟩
    show tokR (rs ++ (10 :: [])) out zeroT i = _
    have f1 : flushF out ⟨t.kind, encL rs, (i : Int)⟩ = out ++ [⟨t.kind, encL rs, i⟩] := by unfold flushF; rw [if_neg h1.kz]
    have f2 : ∀ o : List Tkn, flushF o zeroT = o := fun o => by unfold flushF zeroT; simp
    rw [tok_word h1, tok_blank (.inr (.inr rfl)), f1]
    unfold tokR
    rw [f2]
  | t :: u :: l, rs :: r2 :: rss, out, i, h => by
    obtain ⟨h1, h2, h3⟩ := h
    have f1 : flushF out ⟨t.kind, encL rs, (i : Int)⟩ = out ++ [⟨t.kind, encL rs, i⟩] := by unfold flushF; rw [if_neg h1.kz]
    obtain ⟨ms, n, e1, e2⟩ := tok_back (u :: l) (r2 :: rss) (out ++ [⟨t.kind, encL rs, i⟩]) (i + rs.length + 1) h3
    refine ⟨⟨t.kind, encL rs, i⟩ :: ms, n, ?_, by rw [List.map_cons, List.map_cons, e2]; simp [ktF, h2]⟩
    have e0 : joinR (rs :: r2 :: rss) ++ [10] = rs ++ (32 :: (joinR (r2 :: rss) ++ [10])) := by
      show (rs ++ 32 :: joinR (r2 :: rss)) ++ [10] = _
      simp
    rw [e0, tok_word h1, tok_blank (.inl rfl), f1, e1]
    simp
  | [], _ :: _, _, _, h => h.elim
  | _ :: _, [], _, _, h => h.elim
  | [_], _ :: _ :: _, _, _, h => h.2.2.elim
  | _ :: _ :: _, [_], _, _, h => h.2.2.elim
theorem tokens_back {l : List Tkn} {rss : List (List Int)} (h : Ws l rss) (hB : tokB l ≤ 60000) : ∃ ms n, tokensF (32 :: 9 :: (txtF l ++ [10])) = (ms, n, 0) ∧ ms.map ktF = l.map ktF := by
  obtain ⟨e, hv⟩ := txt_join l rss h
  have hx := txtF_len _ l rfl
  have eT : 32 :: 9 :: (txtF l ++ [10]) = encL (32 :: 9 :: (joinR rss ++ [10])) := by
    have e1 : encL (32 :: 9 :: (joinR rss ++ [10])) = encB 32 ++ (encB 9 ++ encL (joinR rss ++ [10])) := rfl
    rw [e1, enc_blank.1, enc_blank.2.1, encL_append, encL_one, enc_blank.2.2, e]; rfl
  have hR : runesF (32 :: 9 :: (txtF l ++ [10])) = 32 :: 9 :: (joinR rss ++ [10]) := by
    rw [eT]
    refine runes_enc fun r hr => ?_
    rcases List.mem_cons.1 hr with rfl | hr
    · decide
    · rcases List.mem_cons.1 hr with rfl | hr
      · decide
      · rcases List.mem_append.1 hr with hr | hr
        · exact hv r hr
        · rw [List.mem_singleton] at hr; subst hr; decide
  have f0 : ∀ o : List Tkn, flushF o zeroT = o := fun o => by unfold flushF zeroT; simp
  obtain ⟨ms, n, e1, e2⟩ := tok_back l rss [] 2 h
  refine ⟨ms, n, ?_, e2⟩
  unfold tokensF
  rw [if_neg (by simp only [List.length_cons, List.length_append, List.length_nil]; omega), hR, tok_blank (.inl rfl), tok_blank (.inr (.inl rfl)), f0, f0, e1, List.nil_append]
end Go.Proofs.Ytenigafbbdjagaa.AL
