/- What guess.Hidden and guess.Rows come to, for all edges and statistics. -/
import Derived.Test.YtjjhdfpdoopedaaPGGrowx2
import Derived.Test.YtjjhdfpdoopedaaSatOfGGrow
import Derived.Test.YtjjhdfpdoopedaaSetInGGrow
namespace Go.Proofs.Ytjjhdfpdoopedaa.GuessOfGGrow
open Go.RowKit Go.Proofs.Ytjjhdfpdoopedaa.PGGrow Go.Proofs.YtjjhdfpdoopedaaW.PrintWords Go.Proofs.YtjjhdfpdoopedaaW.PrintLast Go.Proofs.YtjjhdfpdoopedaaW.PrintMore Go.Proofs.Ytjjhdfpdoopedaa.Bits Go.Proofs.Ytjjhdfpdoopedaa.SatOfGGrow Go.Proofs.Ytjjhdfpdoopedaa.SetInGGrow Go.Proofs.Ytjjhdfpdoopedaa.SatMath Go.Proofs.Ytjjhdfpdoopedaa.Wd
set_option linter.unusedVariables false
set_option linter.unusedSimpArgs false

/-- An edge whose words are words. -/
def EOk (e : S57) : Prop := Wd e.f2 ∧ Wd e.f4
/-- Does an edge hide its right side? -/
def hides (e : S57) : Bool := decide (e.f0 = 3 ∨ e.f0 = 4)
/-- The tables that are not seen, from a set on. -/
def hid : Nat → List S57 → Nat
  | a, [] => a
  | a, e :: l => hid (if hides e then a ||| e.f4.toNat else a) l
/-- Is a table hidden? -/
def hidB (l : List S57) (j : Nat) : Bool := l.any (fun e => hides e && e.f4.toNat.testBit j)
theorem testBit_hid : ∀ (l : List S57) (a j : Nat), (hid a l).testBit j = (a.testBit j || hidB l j)
  | [], a, j => by simp [hid, hidB]
  | e :: l, a, j => by
    have e1 : hidB (e :: l) j = ((hides e && e.f4.toNat.testBit j) || hidB l j) := by simp [hidB]
    rw [hid, testBit_hid l, e1]
    cases h : hides e <;> simp [Nat.testBit_or, Bool.or_assoc]
theorem hid_lt : ∀ (l : List S57) (a : Nat), (∀ e ∈ l, EOk e) → a < 18446744073709551616 → hid a l < 18446744073709551616
  | [], a, _, ha => ha
  | e :: l, a, h, ha => by
    unfold hid
    refine hid_lt l _ (fun x hx => h x (by simp [hx])) ?_
    have := (h e (by simp)).2
    split
    · exact or_lt ha (by obtain ⟨q1, q2⟩ := this; omega)
    · exact ha
theorem rdE {l : List S57} {i : Nat} (h : i < l.length) : rd_T57 l (i : Int) = l[i] := by simp [rd_T57, h]
theorem hidden_loop (l : List S57) (hl : l.length ≤ 9223372036854775807) (hw : ∀ e ∈ l, EOk e) : ∀ (d k i a : Nat), i ≤ l.length → l.length - i = d → d < k → a < 18446744073709551616 →
    guess_Hidden.l0 k (a : Int) l (l.length : Int) (i : Int) = some ((hid a (l.drop i) : Nat) : Int) := by
  intro d
  induction d with
  | zero =>
    intro k i a hi hd hk ha
    obtain ⟨k, rfl⟩ : ∃ m, k = m + 1 := ⟨k - 1, by omega⟩
    obtain rfl : i = l.length := by omega
    rw [guess_Hidden.l0, if_neg (by omega), List.drop_length]; rfl
  | succ d ih =>
    intro k i a hi hd hk ha
    obtain ⟨k, rfl⟩ : ∃ m, k = m + 1 := ⟨k - 1, by omega⟩
    have hlt : i < l.length := by omega
    have he := (hw _ (List.getElem_mem hlt)).2
    rw [guess_Hidden.l0, if_pos (by omega), if_pos (by omega), if_pos (by omega), rdE hlt, wrap_succ (by omega), List.drop_eq_getElem_cons hlt, hid]
    have hf : l[i].f4 = ((l[i].f4.toNat : Nat) : Int) := by have := he.1; omega
    have hfl : l[i].f4.toNat < 18446744073709551616 := by have := he.2; omega
    have hor : Go.bits .or .u64 (a : Int) l[i].f4 = ((a ||| l[i].f4.toNat : Nat) : Int) := by
      rw [hf, or_cast ha hfl, Int.toNat_natCast]
    unfold hides
    by_cases h3 : l[i].f0 = 3
    · rw [if_pos h3, hor, ih k (i + 1) _ (by omega) (by omega) (by omega) (or_lt ha hfl)]
      simp [h3]
    · rw [if_neg h3]
      by_cases h4 : l[i].f0 = 4
      · rw [if_pos h4, hor, ih k (i + 1) _ (by omega) (by omega) (by omega) (or_lt ha hfl)]
        simp [h4]
      · rw [if_neg h4, ih k (i + 1) _ (by omega) (by omega) (by omega) ha]
        simp [h3, h4]
theorem hidden_f {l : List S57} (hl : l.length ≤ 9223372036854775807) (hw : ∀ e ∈ l, EOk e) {k : Nat} (hk : l.length < k) : guess_Hidden.f k l = some ((hid 0 l : Nat) : Int) := by
  have := hidden_loop l hl hw l.length k 0 0 (by omega) (by omega) (by omega) (by omega)
  rw [List.drop_zero] at this
  exact this

/-- A product, from a number on. -/
def prod : Int → List Int → Int
  | a, [] => a
  | a, x :: l => prod (cap (a * x)) l
theorem prod_wd : ∀ (l : List Int) (a : Int), Wd a → (∀ x ∈ l, Wd x) → Wd (prod a l)
  | [], a, ha, _ => ha
  | x :: l, a, ha, h => prod_wd l _ (cap_wd (Int.mul_nonneg ha.1 (h x (by simp)).1)) (fun y hy => h y (by simp [hy]))
theorem prod_append : ∀ (l m : List Int) (a : Int), prod a (l ++ m) = prod (prod a l) m
  | [], m, a => rfl
  | x :: l, m, a => prod_append l m _
theorem product_loop (l : List Int) (hl : l.length ≤ 9223372036854775807) (hw : ∀ x ∈ l, Wd x) : ∀ (d k i : Nat) (a : Int), i ≤ l.length → l.length - i = d → d < k → Wd a →
    guess_product.l0 k a l (l.length : Int) (i : Int) = some (prod a (l.drop i)) := by
  intro d
  induction d with
  | zero =>
    intro k i a hi hd hk ha
    obtain ⟨k, rfl⟩ : ∃ m, k = m + 1 := ⟨k - 1, by omega⟩
    obtain rfl : i = l.length := by omega
    rw [guess_product.l0, if_neg (by omega), List.drop_length]; rfl
  | succ d ih =>
    intro k i a hi hd hk ha
    obtain ⟨k, rfl⟩ : ∃ m, k = m + 1 := ⟨k - 1, by omega⟩
    have hlt : i < l.length := by omega
    have hx : Wd l[i] := hw _ (List.getElem_mem hlt)
    rw [guess_product.l0, if_pos (by omega), if_pos (by omega), if_pos (by omega), rd_nat hlt, mul_f ha hx, Option.bind_some, wrap_succ (by omega), List.drop_eq_getElem_cons hlt, prod]
    exact ih k (i + 1) _ (by omega) (by omega) (by omega) (cap_wd (Int.mul_nonneg ha.1 hx.1))
theorem product_f {l : List Int} (hl : l.length ≤ 9223372036854775807) (hw : ∀ x ∈ l, Wd x) {k : Nat} (hk : l.length < k) : guess_product.f k l = some (prod 1 l) := by
  have := product_loop l hl hw l.length k 0 1 (by omega) (by omega) hk ⟨by omega, by omega⟩
  rw [List.drop_zero] at this
  exact this

/-- The rows of the tables of a list: those that have a number. -/
def pick (rows : List Int) (m : List Int) : List Int := (m.filter (fun i => decide (i < (rows.length : Int)))).map (rd rows)
theorem pick_cons (rows : List Int) (x : Int) (m : List Int) : pick rows (x :: m) = if x < (rows.length : Int) then rd rows x :: pick rows m else pick rows m := by
  unfold pick
  rw [List.filter_cons]
  by_cases h : x < (rows.length : Int) <;> simp [h]
theorem pick_len (rows m : List Int) : (pick rows m).length ≤ m.length := by
  unfold pick; rw [List.length_map]; exact List.length_filter_le _ _
theorem pick_wd {rows m : List Int} (hr : ∀ x ∈ rows, Wd x) (hm : ∀ x ∈ m, 0 ≤ x) : ∀ x ∈ pick rows m, Wd x := by
  intro x hx
  simp only [pick, List.mem_map, List.mem_filter, decide_eq_true_eq] at hx
  obtain ⟨i, ⟨h1, h2⟩, rfl⟩ := hx
  have := hm i h1
  obtain ⟨j, rfl⟩ : ∃ j : Nat, i = (j : Int) := ⟨i.toNat, by omega⟩
  rw [rd_nat (by omega)]
  exact hr _ (List.getElem_mem _)

/-- The shares of the edges within a set, from an edge and a number on. -/
def shares (l : List S57) (sel : List Int) (set : Nat) : Nat → Nat → Int → Int
  | 0, _, n => n
  | d + 1, i, n => shares l sel set d (i + 1) (if i < sel.length ∧ inB (l.getD i z57).f2.toNat set = true then cap (n * sel.getD i 0 / 65536) else n)
theorem counts_f {l : List S57} (hw : ∀ e ∈ l, EOk e) {i : Nat} (hi : i < l.length) (rows sel : List Int) {set : Nat} (hs : set < 18446744073709551616) :
    guess_Rows_1.f (i : Int) rows sel l (set : Int) = some (decide (i < sel.length ∧ inB (l.getD i z57).f2.toNat set = true)) := by
  unfold guess_Rows_1.f
  have he := (hw _ (List.getElem_mem hi)).1
  have eg : l.getD i z57 = l[i] := by simp [hi]
  rw [eg]
  by_cases h : i < sel.length
  · rw [if_pos (by omega), if_pos (by omega), if_pos (by omega), rdE hi]
    have hf : l[i].f2 = ((l[i].f2.toNat : Nat) : Int) := by have := he.1; omega
    rw [hf, in_f (by have := he.2; omega) hs, Option.bind_some, Int.toNat_natCast]
    simp [h]
  · rw [if_neg (by omega)]
    simp [h]
theorem share_wd {a b : Int} (ha : Wd a) (hb : Wd b) : Wd (cap (a * b / 65536)) := cap_wd (Int.ediv_nonneg (Int.mul_nonneg ha.1 hb.1) (by omega))
theorem shares_loop {l : List S57} (hl : l.length ≤ 9223372036854775807) (hw : ∀ e ∈ l, EOk e) (rows sel : List Int) (hsel : ∀ x ∈ sel, Wd x) {set : Nat} (hs : set < 18446744073709551616) :
    ∀ (d k i : Nat) (n : Int), i ≤ l.length → l.length - i = d → d < k → Wd n →
    guess_Rows.l1 k n (l.length : Int) (i : Int) l rows sel (set : Int) = some (mx 1 (shares l sel set d i n)) := by
  intro d
  induction d with
  | zero =>
    intro k i n hi hd hk hn
    obtain ⟨k, rfl⟩ : ∃ m, k = m + 1 := ⟨k - 1, by omega⟩
    rw [guess_Rows.l1, if_neg (by omega)]; rfl
  | succ d ih =>
    intro k i n hi hd hk hn
    obtain ⟨k, rfl⟩ : ∃ m, k = m + 1 := ⟨k - 1, by omega⟩
    rw [guess_Rows.l1, if_pos (by omega), counts_f hw (by omega) rows sel hs, Option.bind_some, shares, wrap_succ (by omega)]
    by_cases h : i < sel.length ∧ inB (l.getD i z57).f2.toNat set = true
    · have hx : Wd sel[i] := hsel _ (List.getElem_mem h.1)
      have eg : sel.getD i 0 = sel[i] := by simp [h.1]
      rw [if_pos (by simpa using h), if_pos (by omega), if_pos (by omega), rd_nat h.1, share_f hn hx, Option.bind_some, if_pos h, eg]
      exact ih k (i + 1) _ (by omega) (by omega) (by omega) (share_wd hn hx)
    · rw [if_neg (by simpa using h), if_neg h]
      exact ih k (i + 1) _ (by omega) (by omega) (by omega) hn
theorem rows_loop {l : List S57} (hl : l.length ≤ 9223372036854775807) (hw : ∀ e ∈ l, EOk e) (rows sel : List Int) (hrows : ∀ x ∈ rows, Wd x) (hsel : ∀ x ∈ sel, Wd x) {set : Nat} (hs : set < 18446744073709551616)
    (m : List Int) (hm : ∀ x ∈ m, 0 ≤ x) (hm2 : m.length ≤ 64) : ∀ (d k i : Nat) (a : List Int), i ≤ m.length → m.length - i = d → d + l.length + 70 < k → a.length + d ≤ 64 → (∀ x ∈ a, Wd x) →
    guess_Rows.l0 k a m (m.length : Int) (i : Int) l rows sel (set : Int) = some (mx 1 (shares l sel set l.length 0 (prod 1 (a ++ pick rows (m.drop i))))) := by
  intro d
  induction d with
  | zero =>
    intro k i a hi hd hk ha haw
    obtain ⟨k, rfl⟩ : ∃ m, k = m + 1 := ⟨k - 1, by omega⟩
    obtain rfl : i = m.length := by omega
    rw [guess_Rows.l0, if_neg (by omega), product_f (by omega) haw (by omega), Option.bind_some, List.drop_length]
    have e : a ++ pick rows [] = a := by simp [pick]
    rw [e]
    exact shares_loop hl hw rows sel hsel hs l.length k 0 _ (by omega) (by omega) (by omega) (prod_wd _ _ ⟨by omega, by omega⟩ haw)
  | succ d ih =>
    intro k i a hi hd hk ha haw
    obtain ⟨k, rfl⟩ : ∃ m, k = m + 1 := ⟨k - 1, by omega⟩
    have hlt : i < m.length := by omega
    have h0 : 0 ≤ m[i] := hm _ (List.getElem_mem hlt)
    rw [guess_Rows.l0, if_pos (by omega), if_pos (by omega), if_pos (by omega), rd_nat hlt, wrap_succ (by omega), List.drop_eq_getElem_cons hlt, pick_cons]
    by_cases h : m[i] < (rows.length : Int)
    · have hx : Wd (rd rows m[i]) := by
        obtain ⟨j, hj⟩ : ∃ j : Nat, m[i] = (j : Int) := ⟨m[i].toNat, by omega⟩
        rw [hj, rd_nat (by omega)]
        exact hrows _ (List.getElem_mem _)
      rw [if_pos h, if_pos h0, if_pos (by omega), if_pos h, ih k (i + 1) _ (by omega) (by omega) (by omega) (by simp; omega) (by
        intro x hx2
        rw [List.mem_append, List.mem_singleton] at hx2
        rcases hx2 with h1 | rfl
        · exact haw x h1
        · exact hx)]
      simp
    · rw [if_neg h, if_neg h]
      exact ih k (i + 1) a (by omega) (by omega) (by omega) (by omega) haw
/-- How many rows are guessed. -/
def guessed (l : List S57) (rows sel : List Int) (set : Nat) : Int :=
  mx 1 (shares l sel set l.length 0 (prod 1 (pick rows (mem (fun j => set.testBit j && !hidB l j) 0 64))))
theorem rows_f {l : List S57} (hl : l.length ≤ 9223372036854775807) (hw : ∀ e ∈ l, EOk e) {rows sel : List Int} (hrows : ∀ x ∈ rows, Wd x) (hsel : ∀ x ∈ sel, Wd x) {set : Nat} (hs : set < 18446744073709551616)
    {k : Nat} (hk : l.length + 140 < k) : guess_Rows.f k l rows sel (set : Int) = some (guessed l rows sel set) := by
  unfold guess_Rows.f guessed
  have hh : hid 0 l < 18446744073709551616 := hid_lt l 0 hw (by omega)
  rw [hidden_f hl hw (by omega), Option.bind_some, less_cast hs hh, list_f (less_lt hs _), Option.bind_some]
  have e : mem (less set (hid 0 l)).testBit 0 64 = mem (fun j => set.testBit j && !hidB l j) 0 64 := by
    apply mem_congr
    intro j _ hj
    rw [testBit_less _ _ _ hh (by omega), testBit_hid]
    simp
  rw [e]
  generalize hm : mem (fun j => set.testBit j && !hidB l j) 0 64 = m
  have hlen : m.length ≤ 64 := by rw [← hm]; exact mem_length _ _ _
  have h0 : ∀ x ∈ m, 0 ≤ x := by
    intro x hx
    rw [← hm] at hx
    obtain ⟨j, rfl, _⟩ := mem_in hx
    omega
  have := rows_loop hl hw rows sel hrows hsel hs m h0 hlen m.length k 0 [] (by omega) (by omega) (by omega) (by simpa using hlen) (by simp)
  rw [List.drop_zero, List.nil_append] at this
  exact this
end Go.Proofs.Ytjjhdfpdoopedaa.GuessOfGGrow
