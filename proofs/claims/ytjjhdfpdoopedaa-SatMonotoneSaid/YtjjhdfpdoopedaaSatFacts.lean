/- What the printed functions of package sat and of its reference come to, for words of 64 binary digits: sums, products and shares that stop at the greatest one. -/
import Derived.Test.YtjjhdfpdoopedaaPSatx1
import Derived.Test.YtjjhdfpdoopedaaSatMath
namespace Go.Proofs.Ytjjhdfpdoopedaa.SatFacts
open Go.RowKit Go.Proofs.Ytjjhdfpdoopedaa.PSat Go.Proofs.YtjjhdfpdoopedaaW.PrintWords Go.Proofs.YtjjhdfpdoopedaaW.PrintLast Go.Proofs.Ytjjhdfpdoopedaa.SatMath
set_option linter.unusedVariables false
set_option linter.unusedSimpArgs false

/-- A word. -/
def Wd (n : Int) : Prop := 0 ≤ n ∧ n < 18446744073709551616
theorem wd_of {n : Int} (h : (Lit.int .u64 n).wf = true) : Wd n := by
  have hmin : IntKind.u64.min = 0 := rfl
  have hmax : IntKind.u64.max = 18446744073709551615 := rfl
  simp only [Lit.wf, Bool.and_eq_true, decide_eq_true_eq] at h
  exact ⟨by omega, by omega⟩
theorem cap_wd {n : Int} (h : 0 ≤ n) : Wd (cap n) := by unfold cap Wd; split <;> omega
theorem cap_id {n : Int} (h : n < 18446744073709551616) : cap n = n := by unfold cap; rw [if_pos (by omega)]

theorem plus_f {a b : Int} (ha : Wd a) (hb : Wd b) : sat_plus.f a b = some (cap (a + b)) := by
  unfold sat_plus.f cap
  obtain ⟨h1, h2⟩ := ha; obtain ⟨h3, h4⟩ := hb
  rw [u64_id (n := 18446744073709551615 - b) (by omega) (by omega)]
  by_cases h : a > 18446744073709551615 - b
  · rw [if_pos h, if_neg (by omega)]
  · rw [if_neg h, if_pos (by omega), u64_id (by omega) (by omega)]
theorem ref_add_f {a b : Int} (ha : Wd a) (hb : Wd b) : watersmeetref02_Add.f a b = some (cap (a + b)) := by
  unfold watersmeetref02_Add.f cap
  obtain ⟨h1, h2⟩ := ha; obtain ⟨h3, h4⟩ := hb
  rw [u64_id (n := 18446744073709551615 - a) (by omega) (by omega)]
  by_cases h : b > 18446744073709551615 - a
  · rw [if_pos h, if_neg (by omega)]
  · rw [if_neg h, if_pos (by omega), u64_id (by omega) (by omega)]
/-- The sum of a list, from a number on. -/
def sumFrom : Int → List Int → Int
  | a, [] => a
  | a, x :: l => sumFrom (cap (a + x)) l
theorem sumFrom_wd : ∀ (l : List Int) (a : Int), Wd a → (∀ x ∈ l, Wd x) → Wd (sumFrom a l)
  | [], a, ha, _ => ha
  | x :: l, a, ha, h => sumFrom_wd l _ (cap_wd (by have := (h x (by simp)).1; have := ha.1; omega)) (fun y hy => h y (by simp [hy]))
theorem fold_f : ∀ (l : List Int) (a : Int), Wd a → (∀ x ∈ l, Wd x) → sat_fold.go l a = some (sumFrom a l)
  | [], a, _, _ => rfl
  | x :: l, a, ha, h => by
    rw [sat_fold.go, plus_f ha (h x (by simp)), Option.bind_some, fold_f l _ (cap_wd (by have := (h x (by simp)).1; have := ha.1; omega)) (fun y hy => h y (by simp [hy]))]
    rfl
theorem add_f {l : List Int} (h : ∀ x ∈ l, Wd x) : sat_Add.f l = some (sumFrom 0 l) := fold_f l 0 ⟨by omega, by omega⟩ h
theorem sum_two {a b : Int} (ha : Wd a) : sumFrom 0 [a, b] = cap (a + b) := by
  unfold sumFrom sumFrom sumFrom
  rw [cap_id (n := 0 + a) (by have := ha.2; omega)]
  congr 1; omega
theorem add_two {a b : Int} (ha : Wd a) (hb : Wd b) : sat_Add.f [a, b] = some (cap (a + b)) := by
  rw [add_f (by intro x hx; simp at hx; rcases hx with rfl | rfl <;> assumption), sum_two ha]
theorem ref_sum_f (l : List Int) (hl : l.length ≤ 9223372036854775807) (hw : ∀ x ∈ l, Wd x) : ∀ (d : Nat) (k i : Nat) (a : Int), Wd a → i ≤ l.length → l.length - i = d → d < k →
    watersmeetref02_Sum.l0 k l a (i : Int) = some (sumFrom a (l.drop i)) := by
  intro d
  induction d with
  | zero =>
    intro k i a ha hi hd hk
    obtain ⟨k, rfl⟩ : ∃ m, k = m + 1 := ⟨k - 1, by omega⟩
    obtain rfl : i = l.length := by omega
    simp only [watersmeetref02_Sum.l0]
    rw [if_neg (by omega), List.drop_length]; rfl
  | succ d ih =>
    intro k i a ha hi hd hk
    obtain ⟨k, rfl⟩ : ∃ m, k = m + 1 := ⟨k - 1, by omega⟩
    have hlt : i < l.length := by omega
    have hx : Wd l[i] := hw _ (List.getElem_mem hlt)
    have hrd : rd l (i : Int) = l[i] := by simp [rd, hlt]
    simp only [watersmeetref02_Sum.l0]
    rw [if_pos (by omega), if_pos (by omega), hrd, ref_add_f ha hx, Option.bind_some]
    have hw64 : wrap64 ((i : Int) + 1) = ((i + 1 : Nat) : Int) := by unfold wrap64; omega
    rw [hw64, ih k (i + 1) _ (cap_wd (by have := hx.1; have := ha.1; omega)) (by omega) (by omega) (by omega), List.drop_eq_getElem_cons hlt]
    rfl
theorem ref_sum {l : List Int} (hl : l.length ≤ 9223372036854775807) (hw : ∀ x ∈ l, Wd x) : watersmeetref02_Sum.f (l.length + 1) l = some (sumFrom 0 l) := by
  have := ref_sum_f l hl hw l.length (l.length + 1) 0 0 ⟨by omega, by omega⟩ (by omega) (by omega) (by omega)
  simpa [watersmeetref02_Sum.f] using this

theorem wide_f {a b : Int} (ha : Wd a) (hb : Wd b) : sat_wide.f a b = some (a * b / 18446744073709551616, a * b % 18446744073709551616) := by
  unfold sat_wide.f
  rw [wide_hi ha.1 ha.2 hb.1 hb.2, wide_lo]
theorem mul_f {a b : Int} (ha : Wd a) (hb : Wd b) : sat_Mul.f a b = some (cap (a * b)) := by
  unfold sat_Mul.f
  rw [wide_f ha hb, Option.bind_some]
  have hm := mul_bound ha.1 ha.2 hb.1 hb.2
  generalize a * b = n at *
  unfold cap
  by_cases h : n ≤ 18446744073709551615
  · rw [if_neg (by dsimp only; omega), if_pos h]; congr 1; dsimp only; omega
  · rw [if_pos (by dsimp only; omega), if_neg h]
theorem share_f {a b : Int} (ha : Wd a) (hb : Wd b) : sat_Share.f a b = some (cap (a * b / 65536)) := by
  unfold sat_Share.f
  rw [wide_f ha hb, Option.bind_some]
  have hm := mul_bound ha.1 ha.2 hb.1 hb.2
  generalize a * b = n at *
  dsimp only
  by_cases h : n / 18446744073709551616 ≥ 65536
  · rw [if_pos h]; unfold cap; rw [if_neg (by omega)]
  · rw [if_neg h, share_parts hm.1 hm.2 h]; unfold cap; rw [if_pos (by omega)]
theorem ref_mul_f {a b : Int} (ha : Wd a) (hb : Wd b) : watersmeetref02_Mul.f a b = some (cap (a * b)) := by
  unfold watersmeetref02_Mul.f
  have hm := mul_bound ha.1 ha.2 hb.1 hb.2
  by_cases h0 : a = 0
  · subst h0
    rw [if_pos rfl, Int.zero_mul]; rfl
  · rw [if_neg h0]
    have hp : 0 < a := by have := ha.1; omega
    rw [Int.tdiv_eq_ediv_of_nonneg (by omega), u64_id (n := 18446744073709551615 / a) (Int.ediv_nonneg (by omega) (by omega)) (by have := Int.ediv_le_self (a := 18446744073709551615) a (by omega); omega)]
    by_cases h : b > 18446744073709551615 / a
    · have := (mul_by_div hp hb.1).1 h
      rw [if_pos h]; unfold cap; rw [if_neg (by omega)]
    · have h' : ¬ 18446744073709551615 < a * b := fun e => h ((mul_by_div hp hb.1).2 e)
      rw [if_neg h]; unfold cap; rw [if_pos (by omega), u64_id hm.1 (by omega)]
theorem cap_cap (x y : Int) (hx : 0 ≤ x) (hy : 0 ≤ y) : cap (cap x + cap y) = cap (x + y) := by unfold cap; split <;> split <;> split <;> (try split) <;> omega
theorem cap_cap' (x y : Int) (hx : 0 ≤ x) (hy : 0 ≤ y) : cap (cap x + y) = cap (x + y) := by unfold cap; split <;> split <;> (try split) <;> omega
theorem ref_share_f {a b : Int} (ha : Wd a) (hb : Wd b) : watersmeetref02_Share.f a b = some (cap (a * b / 65536)) := by
  unfold watersmeetref02_Share.f
  obtain ⟨ha0, ha1⟩ := ha; obtain ⟨hb0, hb1⟩ := hb
  rw [Int.tdiv_eq_ediv_of_nonneg ha0, Int.tmod_eq_emod_of_nonneg ha0, Int.tdiv_eq_ediv_of_nonneg hb0, Int.tmod_eq_emod_of_nonneg hb0]
  rw [u64_id (n := a / 65536) (by omega) (by omega), u64_id (n := b / 65536) (by omega) (by omega)]
  have hr : 0 ≤ a % 65536 ∧ a % 65536 ≤ 65535 := by omega
  have hs : 0 ≤ b % 65536 ∧ b % 65536 ≤ 65535 := by omega
  have hq : 0 ≤ a / 65536 ∧ a / 65536 ≤ 281474976710655 := by omega
  have hp : 0 ≤ b / 65536 ∧ b / 65536 ≤ 281474976710655 := by omega
  have eA : a = 65536 * (a / 65536) + a % 65536 := by omega
  have eB : b = 65536 * (b / 65536) + b % 65536 := by omega
  rw [ref_mul_f (a := a / 65536) (b := b) ⟨hq.1, by omega⟩ ⟨hb0, hb1⟩, Option.bind_some, ref_mul_f (a := a % 65536) (b := b / 65536) ⟨hr.1, by omega⟩ ⟨hp.1, by omega⟩, Option.bind_some]
  have hrs : 0 ≤ a % 65536 * (b % 65536) ∧ a % 65536 * (b % 65536) ≤ 65535 * 65535 := ⟨Int.mul_nonneg hr.1 hs.1, Int.mul_le_mul hr.2 hs.2 hs.1 (by omega)⟩
  have hrp : 0 ≤ a % 65536 * (b / 65536) := Int.mul_nonneg hr.1 hp.1
  have hqb : 0 ≤ a / 65536 * b := Int.mul_nonneg hq.1 hb0
  have e : a * b = 65536 * (a / 65536 * b) + 65536 * (a % 65536 * (b / 65536)) + a % 65536 * (b % 65536) := by
    have e1 : a * b = 65536 * (a / 65536 * b) + a % 65536 * b := by
      have : a * b = (65536 * (a / 65536) + a % 65536) * b := by rw [← eA]
      rw [this, Int.add_mul, Int.mul_assoc]
    have e2 : a % 65536 * b = 65536 * (a % 65536 * (b / 65536)) + a % 65536 * (b % 65536) := by
      have : a % 65536 * b = a % 65536 * (65536 * (b / 65536) + b % 65536) := by rw [← eB]
      rw [this, Int.mul_add, Int.mul_left_comm]
    omega
  rw [u64_id (n := a % 65536 * (b % 65536)) (by omega) (by omega)]
  rw [Int.tdiv_eq_ediv_of_nonneg hrs.1]
  rw [e]
  clear e eA eB hr hs hq hp ha0 ha1 hb0 hb1
  generalize a / 65536 * b = x at *
  generalize a % 65536 * (b / 65536) = y at *
  generalize a % 65536 * (b % 65536) = z at *
  rw [u64_id (n := z / 65536) (by omega) (by omega)]
  rw [ref_add_f (cap_wd hrp) ⟨by omega, by omega⟩, Option.bind_some, cap_cap' _ _ hrp (by omega), ref_add_f (cap_wd hqb) (cap_wd (by omega)), Option.bind_some, cap_cap _ _ hqb (by omega)]
  congr 2; omega
theorem awake : watersmeetlaw02_awake.f = some true := by
  unfold watersmeetlaw02_awake.f
  have w : ∀ n : Int, 0 ≤ n → n < 18446744073709551616 → Wd n := fun n a b => ⟨a, b⟩
  rw [share_f (w 10 (by omega) (by omega)) (w 32768 (by omega) (by omega)), Option.bind_some, if_pos (by decide), add_two (w 18446744073709551615 (by omega) (by omega)) (w 1 (by omega) (by omega)), Option.bind_some, if_pos (by decide),
    add_f (l := [2, 3, 4]) (by intro x hx; simp at hx; rcases hx with rfl | rfl | rfl <;> exact ⟨by omega, by omega⟩), Option.bind_some, if_pos (by decide), mul_f (w 6 (by omega) (by omega)) (w 7 (by omega) (by omega)), Option.bind_some, if_pos (by decide)]
end Go.Proofs.Ytjjhdfpdoopedaa.SatFacts
