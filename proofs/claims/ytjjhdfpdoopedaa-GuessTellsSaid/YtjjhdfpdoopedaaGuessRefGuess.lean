/- What the reference of package guess comes to, for all edges and statistics. -/
import Derived.Test.YtjjhdfpdoopedaaPGuessx4
import Derived.Test.YtjjhdfpdoopedaaPGuessx4
import Derived.Test.YtjjhdfpdoopedaaGuessOfGuess
import Derived.Test.YtjjhdfpdoopedaaRefInGuess
namespace Go.Proofs.Ytjjhdfpdoopedaa.GuessRefGuess
open Go.RowKit Go.Proofs.Ytjjhdfpdoopedaa.PGuess Go.Proofs.YtjjhdfpdoopedaaW.PrintWords Go.Proofs.YtjjhdfpdoopedaaW.PrintLast Go.Proofs.YtjjhdfpdoopedaaW.PrintMore Go.Proofs.Ytjjhdfpdoopedaa.Bits Go.Proofs.Ytjjhdfpdoopedaa.SatOfGuess Go.Proofs.Ytjjhdfpdoopedaa.SatMath Go.Proofs.Ytjjhdfpdoopedaa.Wd Go.Proofs.Ytjjhdfpdoopedaa.GuessOfGuess Go.Proofs.Ytjjhdfpdoopedaa.RefOfGuess Go.Proofs.Ytjjhdfpdoopedaa.RefInGuess
set_option linter.unusedVariables false
set_option linter.unusedSimpArgs false

theorem rhidden_loop (l : List S57) (hl : l.length ≤ 9223372036854775807) (hw : ∀ e ∈ l, EOk e) {j : Nat} (hj : j < 64) : ∀ (d k i : Nat), i ≤ l.length → l.length - i = d → d + 64 < k →
    watersmeetref27_hidden.l0 k l (j : Int) (i : Int) = some (hidB (l.drop i) j) := by
  intro d
  induction d with
  | zero =>
    intro k i hi hd hk
    obtain ⟨k, rfl⟩ : ∃ m, k = m + 1 := ⟨k - 1, by omega⟩
    obtain rfl : i = l.length := by omega
    rw [watersmeetref27_hidden.l0, if_neg (by omega), List.drop_length]; rfl
  | succ d ih =>
    intro k i hi hd hk
    obtain ⟨k, rfl⟩ : ∃ m, k = m + 1 := ⟨k - 1, by omega⟩
    have hlt : i < l.length := by omega
    have he := (hw _ (List.getElem_mem hlt)).2
    have hf : l[i].f4 = ((l[i].f4.toNat : Nat) : Int) := by have := he.1; omega
    have hfl : l[i].f4.toNat < 18446744073709551616 := by have := he.2; omega
    have e1 : hidB (l[i] :: l.drop (i + 1)) j = ((hides l[i] && l[i].f4.toNat.testBit j) || hidB (l.drop (i + 1)) j) := by unfold hidB; rw [List.any_cons]
    have hh : watersmeetref01_Has.f k l[i].f4 (j : Int) = some (l[i].f4.toNat.testBit j) := by
      have := ref_has_f (k := k) hfl hj (by omega)
      rw [← hf] at this; exact this
    rw [watersmeetref27_hidden.l0, if_pos (by omega), if_pos (by omega), rdE hlt, wrap_succ (by omega), List.drop_eq_getElem_cons hlt, e1, ih k (i + 1) (by omega) (by omega) (by omega), hh, Option.bind_some]
    unfold hides
    by_cases h3 : l[i].f0 = 3
    · rw [if_pos h3]
      cases h : l[i].f4.toNat.testBit j <;> simp [h3]
    · rw [if_neg h3]
      by_cases h4 : l[i].f0 = 4
      · rw [if_pos h4]
        cases h : l[i].f4.toNat.testBit j <;> simp [h4]
      · rw [if_neg h4]
        simp [h3, h4]
theorem rhidden_f {l : List S57} (hl : l.length ≤ 9223372036854775807) (hw : ∀ e ∈ l, EOk e) {j : Nat} (hj : j < 64) {k : Nat} (hk : l.length + 64 < k) : watersmeetref27_hidden.f k l (j : Int) = some (hidB l j) := by
  have := rhidden_loop l hl hw hj l.length k 0 (by omega) (by omega) hk
  rw [List.drop_zero] at this
  exact this
theorem rHidden_loop {l : List S57} (hl : l.length ≤ 9223372036854775807) (hw : ∀ e ∈ l, EOk e) : ∀ (d k i : Nat), i ≤ 64 → 64 - i = d → d + l.length + 9000 < k →
    watersmeetref27_Hidden.l0 k l (mem (hidB l) 0 i) (i : Int) = some ((word (hidB l) 64 : Nat) : Int) := by
  intro d
  induction d with
  | zero =>
    intro k i hi hd hk
    obtain ⟨k, rfl⟩ : ∃ m, k = m + 1 := ⟨k - 1, by omega⟩
    obtain rfl : i = 64 := by omega
    have h1 := mem_length (hidB l) 0 64
    have h2 : 64 * ((mem (hidB l) 0 64).length + 70) ≤ 64 * (64 + 70) := Nat.mul_le_mul_left _ (by omega)
    rw [watersmeetref27_Hidden.l0, if_neg (by omega), ref_of_f _ (by omega) (by omega), Option.bind_some, ofs_mem]
  | succ d ih =>
    intro k i hi hd hk
    obtain ⟨k, rfl⟩ : ∃ m, k = m + 1 := ⟨k - 1, by omega⟩
    have h1 := mem_length (hidB l) 0 i
    have := ih k (i + 1) (by omega) (by omega) (by omega)
    rw [mem_snoc] at this
    rw [watersmeetref27_Hidden.l0, if_pos (by omega), rhidden_f hl hw (by omega) (by omega), Option.bind_some, wrap_succ (by omega)]
    by_cases h : hidB l i = true
    · rw [if_pos h, if_pos (by omega)]
      rw [if_pos h] at this
      exact this
    · rw [if_neg h]
      rw [if_neg h, List.append_nil] at this
      exact this
theorem rHidden_f {l : List S57} (hl : l.length ≤ 9223372036854775807) (hw : ∀ e ∈ l, EOk e) {k : Nat} (hk : l.length + 9100 < k) : watersmeetref27_Hidden.f k l = some ((word (hidB l) 64 : Nat) : Int) :=
  rHidden_loop hl hw 64 k 0 (by omega) (by omega) (by omega)
theorem hid_word {l : List S57} (hw : ∀ e ∈ l, EOk e) : hid 0 l = word (hidB l) 64 := by
  apply eq_word (by rw [pow64]; exact hid_lt l 0 hw (by omega))
  intro j hj
  rw [testBit_hid]; simp

theorem shares_ge (l : List S57) (sel : List Int) (set : Nat) : ∀ (d i : Nat) (n : Int), sel.length ≤ i → shares l sel set d i n = n
  | 0, _, _, _ => rfl
  | d + 1, i, n, h => by
    rw [shares, if_neg (by omega)]
    exact shares_ge l sel set d (i + 1) n (by omega)
theorem shares_nn (l : List S57) (sel : List Int) (set : Nat) (hsel : ∀ x ∈ sel, Wd x) : ∀ (d i : Nat) (n : Int), Wd n → Wd (shares l sel set d i n)
  | 0, _, _, h => h
  | d + 1, i, n, h => by
    rw [shares]
    refine shares_nn l sel set hsel d (i + 1) _ ?_
    split
    · rename_i hc
      have eg : sel.getD i 0 = sel[i] := by simp [hc.1]
      rw [eg]
      exact share_wd h (hsel _ (List.getElem_mem hc.1))
    · exact h
theorem last_f {n : Int} (h : Wd n) : (if n = 0 then some (1 : Int) else some n) = some (mx 1 n) := by
  have := h.1
  unfold mx
  split
  · rw [if_neg (by omega)]
  · split
    · rfl
    · congr 1; omega
theorem rshares_loop {l : List S57} (hl : l.length ≤ 9223372036854775807) (hw : ∀ e ∈ l, EOk e) (rows sel : List Int) (hsel : ∀ x ∈ sel, Wd x) {set : Nat} (hs : set < 18446744073709551616) :
    ∀ (d k i : Nat) (n : Int), i ≤ l.length → l.length - i = d → 2 * d + 130 < k → Wd n →
    watersmeetref27_Rows.l1 k l (set : Int) n (i : Int) rows sel = some (mx 1 (shares l sel set d i n)) := by
  intro d
  induction d with
  | zero =>
    intro k i n hi hd hk hn
    obtain ⟨k, rfl⟩ : ∃ m, k = m + 2 := ⟨k - 2, by omega⟩
    rw [watersmeetref27_Rows.l1, if_neg (by omega), watersmeetref27_Rows.j3, if_neg (by simp), last_f hn]; rfl
  | succ d ih =>
    intro k i n hi hd hk hn
    obtain ⟨k, rfl⟩ : ∃ m, k = m + 2 := ⟨k - 2, by omega⟩
    have hlt : i < l.length := by omega
    rw [watersmeetref27_Rows.l1, if_pos (by omega), watersmeetref27_Rows.j3]
    by_cases h : i < sel.length
    · have he := (hw _ (List.getElem_mem hlt)).1
      have eg : l.getD i z57 = l[i] := by simp [hlt]
      have hf : l[i].f2 = ((l[i].f2.toNat : Nat) : Int) := by have := he.1; omega
      have hin : watersmeetref01_In.f k l[i].f2 (set : Int) = some (inB l[i].f2.toNat set) := by
        have := ref_in_f (k := k) (a := l[i].f2.toNat) (by have := he.2; omega) hs (by omega)
        rw [← hf] at this; exact this
      have hx : Wd sel[i] := hsel _ (List.getElem_mem h)
      have es : sel.getD i 0 = sel[i] := by simp [h]
      rw [if_pos (by simpa using h), if_pos (by omega), if_pos (by omega), rdE hlt, hin, Option.bind_some, shares, eg, wrap_succ (by omega)]
      by_cases h2 : inB l[i].f2.toNat set = true
      · rw [if_pos h2, if_pos (by omega), rd_nat h, ref_share_f hn hx, Option.bind_some, if_pos ⟨h, h2⟩, es]
        exact ih k (i + 1) _ (by omega) (by omega) (by omega) (share_wd hn hx)
      · rw [if_neg h2, if_neg (fun e => h2 e.2)]
        exact ih k (i + 1) _ (by omega) (by omega) (by omega) hn
    · rw [if_neg (by simpa using h), last_f hn, shares_ge _ _ _ _ _ _ (by omega)]
theorem pick_ge (rows m : List Int) (h : ∀ x ∈ m, (rows.length : Int) ≤ x) : pick rows m = [] := by
  unfold pick
  rw [List.map_eq_nil_iff, List.filter_eq_nil_iff]
  intro x hx
  have := h x hx
  simp; omega
theorem rrows_loop {l : List S57} (hl : l.length ≤ 9223372036854775807) (hw : ∀ e ∈ l, EOk e) (rows sel : List Int) (hrows : ∀ x ∈ rows, Wd x) (hsel : ∀ x ∈ sel, Wd x) {set : Nat} (hs : set < 18446744073709551616) :
    ∀ (d k i : Nat) (n : Int), i ≤ 64 → 64 - i = d → 2 * d + 2 * l.length + 270 < k → Wd n →
    watersmeetref27_Rows.l0 k l (set : Int) n (i : Int) rows sel = some (mx 1 (shares l sel set l.length 0 (prod n (pick rows (mem (fun j => set.testBit j && !hidB l j) i d))))) := by
  intro d
  induction d with
  | zero =>
    intro k i n hi hd hk hn
    obtain ⟨k, rfl⟩ : ∃ m, k = m + 2 := ⟨k - 2, by omega⟩
    rw [watersmeetref27_Rows.l0, if_neg (by omega), watersmeetref27_Rows.j1, if_neg (by simp)]
    exact rshares_loop hl hw rows sel hsel hs l.length k 0 n (by omega) (by omega) (by omega) hn
  | succ d ih =>
    intro k i n hi hd hk hn
    obtain ⟨k, rfl⟩ : ∃ m, k = m + 2 := ⟨k - 2, by omega⟩
    rw [watersmeetref27_Rows.l0, if_pos (by omega), watersmeetref27_Rows.j1]
    by_cases h : i < rows.length
    · have hx : Wd rows[i] := hrows _ (List.getElem_mem h)
      rw [if_pos (by simpa using h), ref_has_f hs (by omega) (by omega), Option.bind_some, wrap_succ (by omega), mem_succ]
      by_cases h1 : set.testBit i = true
      · rw [if_pos h1, rhidden_f hl hw (by omega) (by omega), Option.bind_some]
        by_cases h2 : hidB l i = true
        · rw [if_pos h2, if_neg (by simp [h2])]
          exact ih k (i + 1) n (by omega) (by omega) (by omega) hn
        · rw [if_neg h2, if_pos (by omega), if_pos (by omega), rd_nat h, ref_mul_f hn hx, Option.bind_some, if_pos (by simp [h1, h2]), pick_cons, if_pos (by omega), rd_nat h, prod]
          exact ih k (i + 1) _ (by omega) (by omega) (by omega) (cap_wd (Int.mul_nonneg hn.1 hx.1))
      · rw [if_neg h1, if_neg (by simp [h1])]
        exact ih k (i + 1) n (by omega) (by omega) (by omega) hn
    · rw [if_neg (by simpa using h), pick_ge]
      · exact rshares_loop hl hw rows sel hsel hs l.length k 0 n (by omega) (by omega) (by omega) hn
      · intro x hx
        obtain ⟨j, rfl, h1, _⟩ := mem_in hx
        omega
theorem rRows_f {l : List S57} (hl : l.length ≤ 9223372036854775807) (hw : ∀ e ∈ l, EOk e) {rows sel : List Int} (hrows : ∀ x ∈ rows, Wd x) (hsel : ∀ x ∈ sel, Wd x) {set : Nat} (hs : set < 18446744073709551616)
    {k : Nat} (hk : 2 * l.length + 400 < k) : watersmeetref27_Rows.f k l rows sel (set : Int) = some (guessed l rows sel set) :=
  rrows_loop hl hw rows sel hrows hsel hs 64 k 0 1 (by omega) (by omega) (by omega) ⟨by omega, by omega⟩
end Go.Proofs.Ytjjhdfpdoopedaa.GuessRefGuess
