/- What reject.May comes to: three truths, for every predicate and set of null tables; one of them holds always. -/
import Derived.Test.YtigkkfhpnfjmhaaPRejGx3
import Derived.Test.YtigkkfhpnfjmhaaPRejGx2
import Derived.Test.YtigkkfhpnfjmhaaPRejGx4
import Derived.Test.YtigkkfhpnfjmhaaPRejGx2
import Derived.Test.YtigkkfhpnfjmhaaSetHasRejG
import Derived.Test.YtigkkfhpnfjmhaaStep
namespace Go.Proofs.Ytigkkfhpnfjmhaa.MayOfRejG
open Go.RowKit Go.Proofs.Ytigkkfhpnfjmhaa.PRejG Go.Proofs.YtigkkfhpnfjmhaaW.PrintWords Go.Proofs.YtigkkfhpnfjmhaaW.PrintLast Go.Proofs.YtigkkfhpnfjmhaaW.PrintMore Go.Proofs.Ytigkkfhpnfjmhaa.Bits Go.Proofs.Ytigkkfhpnfjmhaa.SetHasRejG Go.Proofs.Ytigkkfhpnfjmhaa.Opens
set_option linter.unusedVariables false
set_option linter.unusedSimpArgs false

/-- A predicate, a term; three truths. -/
abbrev SP := S46
abbrev ST := S44
abbrev T3 := Bool × Bool × Bool
/-- One truth of the three. -/
def tv (T : T3) (t : Int) : Bool := if t = 0 then T.1 else if t = 1 then T.2.1 else T.2.2
def clamp (x : Int) : Int := if 0 ≤ x ∧ x ≤ 2 then x else 1
def trip (x : Int) : T3 := (x == 0, x == 1, x == 2)
theorem andS (x : Int) {k : Nat} (hk : 4 ≤ k) : logic_And.f k [x] = some (clamp x) := by
  obtain ⟨k, rfl⟩ : ∃ m, k = m + 4 := ⟨k - 4, by omega⟩
  have hof : logic_of.f x = some (clamp x) := by
    unfold logic_of.f logic_Right.f clamp
    by_cases h1 : x ≥ 0
    · rw [if_pos h1, Option.bind_some]
      by_cases h2 : x ≤ 2
      · simp [h1, h2]
      · simp [h1, h2]
    · rw [if_neg h1, Option.bind_some]; simp [h1]
  have hc : ∀ (y : Int) (j : Nat), slices_ContainsFunc_int_int_at_logic_first_1_1.f (j + 4) [x] y = some (clamp x == y) := by
    intro y j
    unfold slices_ContainsFunc_int_int_at_logic_first_1_1.f slices_IndexFunc_int_int_at_logic_first_1_1.f
    have hl : (([x] : List Int).length : Int) = 1 := by simp
    rw [hl, slices_IndexFunc_int_int_at_logic_first_1_1.l0, if_pos (by omega), if_pos (by omega), if_pos (by omega)]
    unfold logic_first_1_1.f
    have hr : rd [x] 0 = x := by simp [rd]
    rw [hr, hof, Option.bind_some, Option.bind_some]
    by_cases h : clamp x = y
    · rw [if_pos (by simpa using h), Option.bind_some]; simp [h]
    · rw [if_neg (by simpa using h), show wrap64 (0 + 1) = 1 by decide +kernel, slices_IndexFunc_int_int_at_logic_first_1_1.l0, if_neg (by omega), Option.bind_some]
      simp [h]
  unfold logic_And.f logic_first.f logic_first_1.f
  rw [hc, Option.bind_some, Option.bind_some]
  have hcl : clamp x = 0 ∨ clamp x = 1 ∨ clamp x = 2 := by unfold clamp; split <;> omega
  rcases hcl with h | h | h
  · rw [h]; rfl
  · rw [h, hc, h]; rfl
  · rw [h, hc, h]; rfl
theorem only_f (x : Int) {k : Nat} (hk : 4 ≤ k) : reject_only.f k x = some (trip (clamp x)) := by
  unfold reject_only.f
  rw [andS x hk, Option.bind_some]
  have hcl : clamp x = 0 ∨ clamp x = 1 ∨ clamp x = 2 := by unfold clamp; split <;> omega
  rcases hcl with h | h | h <;> rw [h] <;> rfl

/-- Is a term null for sure? -/
def nullB (t : ST) (n : Nat) : Bool := if t.f0 = 1 then hasB n t.f1 else t.f3.f0
theorem isNull_f (t : ST) {n : Nat} (hn : n < 18446744073709551616) : reject_isNull.f t.f0 t.f1 t.f2 t.f3.f0 t.f3.f1 (n : Int) = some (nullB t n) := by
  unfold reject_isNull.f nullB
  by_cases h : t.f0 = 1
  · rw [if_pos h, if_pos h, has_f hn, Option.bind_some]
  · rw [if_neg h, if_neg h]
/-- What may be made of two. -/
def andV (a x : T3) : T3 := ((a.1 && (x.1 || x.2.1 || x.2.2)) || (x.1 && (a.1 || a.2.1 || a.2.2)), (a.2.1 && (x.2.1 || x.2.2)) || (a.2.2 && x.2.1), a.2.2 && x.2.2)
def orV (a x : T3) : T3 := (a.1 && x.1, (a.2.1 && (x.1 || x.2.1)) || (a.1 && x.2.1), (a.2.2 && (x.1 || x.2.1 || x.2.2)) || (x.2.2 && (a.1 || a.2.1 || a.2.2)))
theorem bothA (k : Nat) (a x : T3) : reject_both_at_logic_And.f k a.1 a.2.1 a.2.2 x.1 x.2.1 x.2.2 = some (andV a x) := by
  obtain ⟨a0, a1, a2⟩ := a
  obtain ⟨x0, x1, x2⟩ := x
  revert a0 a1 a2 x0 x1 x2
  have : ∀ a0 a1 a2 x0 x1 x2 : Bool, (reject_both_at_logic_And.out a0 a1 a2 x0 x1 x2 9 0, reject_both_at_logic_And.out a0 a1 a2 x0 x1 x2 9 1, reject_both_at_logic_And.out a0 a1 a2 x0 x1 x2 9 2) = andV (a0, a1, a2) (x0, x1, x2) := by decide +kernel
  intro a0 a1 a2 x0 x1 x2
  unfold reject_both_at_logic_And.f
  rw [this]
theorem bothO (k : Nat) (a x : T3) : reject_both_at_logic_Or.f k a.1 a.2.1 a.2.2 x.1 x.2.1 x.2.2 = some (orV a x) := by
  obtain ⟨a0, a1, a2⟩ := a
  obtain ⟨x0, x1, x2⟩ := x
  revert a0 a1 a2 x0 x1 x2
  have : ∀ a0 a1 a2 x0 x1 x2 : Bool, (reject_both_at_logic_Or.out a0 a1 a2 x0 x1 x2 9 0, reject_both_at_logic_Or.out a0 a1 a2 x0 x1 x2 9 1, reject_both_at_logic_Or.out a0 a1 a2 x0 x1 x2 9 2) = orV (a0, a1, a2) (x0, x1, x2) := by decide +kernel
  intro a0 a1 a2 x0 x1 x2
  unfold reject_both_at_logic_Or.f
  rw [this]

def mayF (k : Nat) (p : SP) (n : Int) := reject_May.f k p.f0 p.f1 p.f2 p.f3.f0 p.f3.f1 p.f3.f2 p.f3.f3.f0 p.f3.f3.f1 p.f4.f0 p.f4.f1 p.f4.f2 p.f4.f3.f0 p.f4.f3.f1 p.f5 n
theorem rdP {l : List SP} {i : Nat} (h : i < l.length) : rd_T46 l (i : Int) = l[i] := by simp [rd_T46, h]

abbrev Bn (m : Nat) (p : SP) : Prop := bn46 m p
theorem bn_succ {m : Nat} {p : SP} (h : Bn (m + 1) p) : p.f5.length ≤ 9223372036854775807 ∧ ∀ x ∈ p.f5, Bn m x := by
  obtain ⟨_, _, _, _, _, h1, _, h2⟩ := h
  exact ⟨h1, h2⟩
theorem bn_mono : ∀ {m : Nat} {p : SP}, Bn m p → Bn (m + 1) p
  | 0, p, h => h.elim
  | m + 1, p, h => by
    obtain ⟨a0, a1, a2, a3, a4, h1, h3, h2⟩ := h
    exact ⟨a0, a1, a2, a3, a4, h1, h3, fun x hx => bn_mono (h2 x hx)⟩
theorem bn_le {m m' : Nat} {p : SP} (h : Bn m p) (hm : m ≤ m') : Bn m' p := by
  induction hm with
  | refl => exact h
  | step _ ih => exact bn_mono ih
theorem bs_of {l : List SP} (h : SliceB 128 b46 l) : ∃ m, l.length ≤ 9223372036854775807 ∧ ∀ x ∈ l, Bn m x := by
  obtain ⟨h1, _, h2⟩ := h
  have : ∀ l : List SP, (∀ x ∈ l, b46 x) → ∃ m, ∀ x ∈ l, Bn m x := by
    intro l
    induction l with
    | nil => intro _; exact ⟨0, by simp⟩
    | cons x l ih =>
      intro h
      obtain ⟨m1, h1⟩ := h x (by simp)
      obtain ⟨m2, h2⟩ := ih (fun y hy => h y (by simp [hy]))
      refine ⟨m1 + m2, fun y hy => ?_⟩
      rcases List.mem_cons.1 hy with rfl | hy
      · exact bn_le h1 (by omega)
      · exact bn_le (h2 y hy) (by omega)
  obtain ⟨m, hm⟩ := this l h2
  exact ⟨m, h1, hm⟩
theorem clamp_is {x : Int} (h : x = 0 ∨ x = 1 ∨ x = 2) : clamp x = x := by unfold clamp; rw [if_pos (by omega)]
theorem trip_eta (k : Nat) (hk : 4 ≤ k) (x : Int) : (reject_only.f k x).bind (fun bt => some (bt.1, bt.2.1, bt.2.2)) = some (trip (clamp x)) := by rw [only_f x hk]; rfl

def cmpV (n : Nat) (p : SP) : T3 :=
  if p.f2 < 1 then trip 1 else if p.f2 > 6 then trip 1 else if nullB p.f3 n = true then trip 1 else if nullB p.f4 n = true then trip 1 else if p.f3.f0 = 1 then (true, true, true) else if p.f4.f0 = 1 then (true, true, true)
  else trip (clamp (value_Compare.v p.f2 p.f3.f3.f0 p.f3.f3.f1 p.f4.f3.f0 p.f4.f3.f1))
/-- What Not makes of the first part. -/
def notV (f : SP → T3) : List SP → T3
  | [] => trip 1
  | x :: _ => ((f x).2.2, (f x).2.1, (f x).1)
/-- The three truths of a predicate, so deep. -/
def mayV (n : Nat) : Nat → SP → T3
  | 0, _ => (true, true, true)
  | m + 1, p =>
    if p.f0 = 1 then trip (clamp p.f1) else if p.f0 = 2 then cmpV n p else if p.f0 = 3 then (if nullB p.f3 n = true then trip 2 else (true, false, (p.f3.f0 == 1)))
    else if p.f0 = 4 then p.f5.foldl (fun o x => andV o (mayV n m x)) (false, false, true)
    else if p.f0 = 5 then p.f5.foldl (fun o x => orV o (mayV n m x)) (true, false, false)
    else if p.f0 = 6 then notV (mayV n m) p.f5
    else trip 1
theorem notV_pos (f : SP → T3) (l : List SP) (h : 0 < l.length) : notV f l = ((f l[0]).2.2, (f l[0]).2.1, (f l[0]).1) := by
  cases l with
  | nil => simp at h
  | cons x l => rfl
section lists
variable {n : Int} {l : List SP} {T : SP → T3} {K : Nat} (hlen : l.length ≤ 9223372036854775807) (hT : ∀ k, K ≤ k → ∀ i (h : i < l.length), mayF k l[i] n = some (T l[i]))
include hlen hT
theorem or_loop : ∀ (d i k : Nat) (o : T3), i ≤ l.length → l.length - i = d → K + d < k → reject_May.l0 k n l (l.length : Int) (i : Int) o.1 o.2.1 o.2.2 = some ((l.drop i).foldl (fun o x => orV o (T x)) o) := by
  intro d
  induction d with
  | zero =>
    intro i k o hi hd hk
    obtain ⟨k, rfl⟩ : ∃ m, k = m + 1 := ⟨k - 1, by omega⟩
    rw [reject_May.l0, if_neg (by omega), List.drop_of_length_le (by omega)]; rfl
  | succ d ih =>
    intro i k o hi hd hk
    obtain ⟨k, rfl⟩ : ∃ m, k = m + 1 := ⟨k - 1, by omega⟩
    have hlt : i < l.length := by omega
    have hx := hT k (by omega) i hlt
    unfold mayF at hx
    rw [reject_May.l0, if_pos (by omega), if_pos (by omega), if_pos (by omega), rdP hlt, hx, Option.bind_some, bothO, Option.bind_some, wrap_succ (by omega), ih (i + 1) k _ (by omega) (by omega) (by omega), List.drop_eq_getElem_cons hlt, List.foldl_cons]
theorem and_loop : ∀ (d i k : Nat) (o : T3), i ≤ l.length → l.length - i = d → K + d < k → reject_May.l101 k n l (l.length : Int) (i : Int) o.1 o.2.1 o.2.2 = some ((l.drop i).foldl (fun o x => andV o (T x)) o) := by
  intro d
  induction d with
  | zero =>
    intro i k o hi hd hk
    obtain ⟨k, rfl⟩ : ∃ m, k = m + 1 := ⟨k - 1, by omega⟩
    rw [reject_May.l101, if_neg (by omega), List.drop_of_length_le (by omega)]; rfl
  | succ d ih =>
    intro i k o hi hd hk
    obtain ⟨k, rfl⟩ : ∃ m, k = m + 1 := ⟨k - 1, by omega⟩
    have hlt : i < l.length := by omega
    have hx := hT k (by omega) i hlt
    unfold mayF at hx
    rw [reject_May.l101, if_pos (by omega), if_pos (by omega), if_pos (by omega), rdP hlt, hx, Option.bind_some, bothA, Option.bind_some, wrap_succ (by omega), ih (i + 1) k _ (by omega) (by omega) (by omega), List.drop_eq_getElem_cons hlt, List.foldl_cons]
end lists
theorem list_ev {n : Int} {T : SP → T3} : ∀ (l : List SP), (∀ x ∈ l, ∃ K, ∀ k, K ≤ k → mayF k x n = some (T x)) → ∃ K, ∀ k, K ≤ k → ∀ i (h : i < l.length), mayF k l[i] n = some (T l[i])
  | [], _ => ⟨0, fun k _ i h => absurd h (by simp)⟩
  | x :: l, h => by
    obtain ⟨K1, h1⟩ := h x (by simp)
    obtain ⟨K2, h2⟩ := list_ev l (fun y hy => h y (by simp [hy]))
    refine ⟨K1 + K2, fun k hk i hi => ?_⟩
    cases i with
    | zero => exact h1 k (by omega)
    | succ i => exact h2 k (by omega) i (by simpa using hi)
theorem may_ev {n : Nat} (hn : n < 18446744073709551616) : ∀ (m : Nat) (p : SP), Bn m p → ∃ K, ∀ k, K ≤ k → mayF k p (n : Int) = some (mayV n m p) := by
  intro m
  induction m with
  | zero => intro p h; exact h.elim
  | succ m ih =>
    intro p hp
    obtain ⟨hlen, hx⟩ := bn_succ hp
    obtain ⟨K, hT⟩ := list_ev (n := (n : Int)) (T := mayV n m) p.f5 (fun x hx' => ih x (hx x hx'))
    have nA := isNull_f p.f3 hn
    have nB := isNull_f p.f4 hn
    by_cases k1 : p.f0 = 1
    · refine ⟨10, fun k hk => ?_⟩
      obtain ⟨k, rfl⟩ : ∃ m, k = m + 1 := ⟨k - 1, by omega⟩
      unfold mayF
      rw [reject_May.f, if_pos k1, trip_eta k (by omega), mayV, if_pos k1]
    by_cases k2 : p.f0 = 2
    · have key : (∀ k, 10 ≤ k → reject_compares.f k p.f0 p.f1 p.f2 p.f3.f0 p.f3.f1 p.f3.f2 p.f3.f3.f0 p.f3.f3.f1 p.f4.f0 p.f4.f1 p.f4.f2 p.f4.f3.f0 p.f4.f3.f1 p.f5 (n : Int) = some (cmpV n p)) → ∃ K, ∀ k, K ≤ k → mayF k p (n : Int) = some (mayV n (m + 1) p) := by
        intro h1
        refine ⟨80, fun k hk => ?_⟩
        obtain ⟨k, rfl⟩ : ∃ m, k = m + 1 := ⟨k - 1, by omega⟩
        unfold mayF
        rw [reject_May.f, if_neg k1, if_pos k2, h1 k (by omega), mayV, if_neg k1, if_pos k2]; rfl
      refine key (fun k hk => ?_)
      obtain ⟨k, rfl⟩ : ∃ m, k = m + 2 := ⟨k - 2, by omega⟩
      unfold reject_compares.f cmpV
      by_cases o1 : p.f2 < 1
      · rw [if_pos o1, if_pos o1, reject_compares.j0, if_pos rfl, trip_eta _ (by omega)]; rfl
      by_cases o2 : p.f2 > 6
      · rw [if_neg o1, if_pos o2, if_neg o1, if_pos o2, reject_compares.j0, if_pos rfl, trip_eta _ (by omega)]; rfl
      rw [if_neg o1, if_neg o2, if_neg o1, if_neg o2, nA, Option.bind_some]
      by_cases c1 : nullB p.f3 n = true
      · rw [if_pos c1, if_pos c1, reject_compares.j0, if_pos rfl, trip_eta _ (by omega)]; rfl
      rw [if_neg c1, if_neg c1, nB, Option.bind_some, reject_compares.j0]
      by_cases c2 : nullB p.f4 n = true
      · rw [if_pos c2, if_pos c2, trip_eta _ (by omega)]; rfl
      rw [if_neg c2, if_neg c2]
      by_cases c3 : p.f3.f0 = 1
      · rw [if_pos c3, if_pos c3, reject_compares.j1, if_neg (by simp)]
      rw [if_neg c3, if_neg c3, reject_compares.j1]
      by_cases c4 : p.f4.f0 = 1
      · rw [if_pos c4, if_neg (by simp [c4])]
      rw [if_neg c4, if_pos (by simpa using c4)]
      unfold value_Compare.f
      rw [Option.bind_some, trip_eta _ (by omega)]
    by_cases k3 : p.f0 = 3
    · refine ⟨80, fun k hk => ?_⟩
      obtain ⟨k, rfl⟩ : ∃ m, k = m + 1 := ⟨k - 1, by omega⟩
      unfold mayF
      rw [reject_May.f, if_neg k1, if_neg k2, if_pos k3, nA, Option.bind_some, mayV, if_neg k1, if_neg k2, if_pos k3]
      by_cases c : nullB p.f3 n = true
      · rw [if_pos c, if_pos c, trip_eta k (by omega)]; rfl
      · rw [if_neg c, if_neg c]
    by_cases k4 : p.f0 = 4
    · refine ⟨K + p.f5.length + 80, fun k hk => ?_⟩
      obtain ⟨k, rfl⟩ : ∃ m, k = m + 2 := ⟨k - 2, by omega⟩
      have hl := and_loop (n := (n : Int)) hlen hT p.f5.length 0 k (false, false, true) (by omega) (by omega) (by omega)
      simp only [List.drop_zero, Int.natCast_zero] at hl
      unfold mayF
      rw [reject_May.f, if_neg k1, if_neg k2, if_neg k3, if_pos k4, reject_May.j0, if_pos (by simp [k4]), only_f 2 (by omega), Option.bind_some, if_neg (by omega), mayV, if_neg k1, if_neg k2, if_neg k3, if_pos k4]
      exact hl
    by_cases k5 : p.f0 = 5
    · refine ⟨K + p.f5.length + 80, fun k hk => ?_⟩
      obtain ⟨k, rfl⟩ : ∃ m, k = m + 2 := ⟨k - 2, by omega⟩
      have hl := or_loop (n := (n : Int)) hlen hT p.f5.length 0 k (true, false, false) (by omega) (by omega) (by omega)
      simp only [List.drop_zero, Int.natCast_zero] at hl
      unfold mayF
      rw [reject_May.f, if_neg k1, if_neg k2, if_neg k3, if_neg k4, reject_May.j0, if_pos (by simp [k5]), only_f 2 (by omega), Option.bind_some, if_pos k5, only_f 0 (by omega), Option.bind_some, mayV, if_neg k1, if_neg k2, if_neg k3, if_neg k4, if_pos k5]
      exact hl
    by_cases k6 : p.f0 = 6
    · by_cases hz : (p.f5.length : Int) > 0
      · have hlt : 0 < p.f5.length := by omega
        refine ⟨K + 80, fun k hk => ?_⟩
        obtain ⟨k, rfl⟩ : ∃ m, k = m + 2 := ⟨k - 2, by omega⟩
        have a0 := hT k (by omega) 0 hlt
        unfold mayF at a0
        have r0 := rdP hlt
        rw [Int.natCast_zero] at r0
        unfold mayF
        rw [reject_May.f, if_neg k1, if_neg k2, if_neg k3, if_neg k4, reject_May.j0, if_neg (by simpa using k5), if_pos k6, if_pos hz, if_pos (by omega), r0, a0, Option.bind_some, mayV, if_neg k1, if_neg k2, if_neg k3, if_neg k4, if_neg k5, if_pos k6]
        rw [notV_pos (mayV n m) p.f5 hlt]
      · refine ⟨80, fun k hk => ?_⟩
        obtain ⟨k, rfl⟩ : ∃ m, k = m + 2 := ⟨k - 2, by omega⟩
        have hq : p.f5 = [] := List.length_eq_zero_iff.1 (by omega)
        unfold mayF
        rw [reject_May.f, if_neg k1, if_neg k2, if_neg k3, if_neg k4, reject_May.j0, if_neg (by simpa using k5), if_pos k6, if_neg hz, trip_eta k (by omega), mayV, if_neg k1, if_neg k2, if_neg k3, if_neg k4, if_neg k5, if_pos k6, hq]; rfl
    · refine ⟨80, fun k hk => ?_⟩
      obtain ⟨k, rfl⟩ : ∃ m, k = m + 2 := ⟨k - 2, by omega⟩
      unfold mayF
      rw [reject_May.f, if_neg k1, if_neg k2, if_neg k3, if_neg k4, reject_May.j0, if_neg (by simpa using k5), if_neg k6, trip_eta k (by omega), mayV, if_neg k1, if_neg k2, if_neg k3, if_neg k4, if_neg k5, if_neg k6]; rfl
/-- What predicates all together may be. -/
def allV (n m : Nat) (l : List SP) : T3 := l.foldl (fun o x => andV o (mayV n m x)) (false, false, true)
theorem mays {n : Nat} (hn : n < 18446744073709551616) (m : Nat) (l : List SP) (h : ∀ x ∈ l, Bn m x) : ∃ K, ∀ k, K ≤ k → ∀ i (h : i < l.length), mayF k l[i] (n : Int) = some (mayV n m l[i]) :=
  list_ev l (fun x hx => may_ev hn m x (h x hx))
theorem rejects_f {n : Nat} {m : Nat} {l : List SP} (hlen : l.length ≤ 9223372036854775807) {K : Nat} (hT : ∀ k, K ≤ k → ∀ i (h : i < l.length), mayF k l[i] (n : Int) = some (mayV n m l[i])) {k : Nat} (hk : K + l.length + 16 < k) :
    reject_Rejects.f k l (n : Int) = some (!(allV n m l).2.2) := by
  obtain ⟨k, rfl⟩ : ∃ m, k = m + 2 := ⟨k - 2, by omega⟩
  have hl := and_loop (n := (n : Int)) hlen hT l.length 0 k (false, false, true) (by omega) (by omega) (by omega)
  simp only [List.drop_zero, Int.natCast_zero] at hl
  unfold reject_Rejects.f
  rw [reject_May.f, if_neg (by omega), if_neg (by omega), if_neg (by omega), if_pos rfl, reject_May.j0, if_pos (show ((4 : Int) == 4) = true from rfl), only_f 2 (by omega), Option.bind_some, if_neg (by omega)]
  have e : reject_May.l101 k (n : Int) l (l.length : Int) 0 (trip (clamp 2)).1 (trip (clamp 2)).2.1 (trip (clamp 2)).2.2 = some (allV n m l) := hl
  rw [e]; rfl
/-- One of the three holds. -/
def ne (T : T3) : Bool := T.1 || T.2.1 || T.2.2
theorem ne_and (a x : T3) : ne a = true → ne x = true → ne (andV a x) = true := by
  obtain ⟨a0, a1, a2⟩ := a
  obtain ⟨x0, x1, x2⟩ := x
  revert a0 a1 a2 x0 x1 x2
  decide +kernel
theorem ne_or (a x : T3) : ne a = true → ne x = true → ne (orV a x) = true := by
  obtain ⟨a0, a1, a2⟩ := a
  obtain ⟨x0, x1, x2⟩ := x
  revert a0 a1 a2 x0 x1 x2
  decide +kernel
theorem ne_trip (x : Int) : ne (trip (clamp x)) = true := by
  have hcl : clamp x = 0 ∨ clamp x = 1 ∨ clamp x = 2 := by unfold clamp; split <;> omega
  rcases hcl with h | h | h <;> rw [h] <;> rfl
theorem ne_may (n : Nat) : ∀ (m : Nat) (p : SP), ne (mayV n m p) = true
  | 0, _ => rfl
  | m + 1, p => by
    have hA : ∀ (l : List SP) (o : T3), ne o = true → ne (l.foldl (fun o x => andV o (mayV n m x)) o) = true := by
      intro l
      induction l with
      | nil => intro o h; exact h
      | cons x l ih => intro o h; exact ih _ (ne_and _ _ h (ne_may n m x))
    have hO : ∀ (l : List SP) (o : T3), ne o = true → ne (l.foldl (fun o x => orV o (mayV n m x)) o) = true := by
      intro l
      induction l with
      | nil => intro o h; exact h
      | cons x l ih => intro o h; exact ih _ (ne_or _ _ h (ne_may n m x))
    rw [mayV]
    split
    · exact ne_trip _
    split
    · unfold cmpV
      repeat' split
      all_goals first | rfl | exact ne_trip _
    split
    · split <;> rfl
    split
    · exact hA _ _ rfl
    split
    · exact hO _ _ rfl
    split
    · cases p.f5 with
      | nil => rfl
      | cons x l =>
        show ne ((mayV n m x).2.2, (mayV n m x).2.1, (mayV n m x).1) = true
        have := ne_may n m x
        revert this
        generalize mayV n m x = T
        obtain ⟨a0, a1, a2⟩ := T
        revert a0 a1 a2
        decide +kernel
    · rfl
theorem all_snoc (n m : Nat) (l : List SP) (p : SP) : allV n m (l ++ [p]) = andV (allV n m l) (mayV n m p) := by unfold allV; rw [List.foldl_append]; rfl
def sizeF (k : Nat) (p : SP) (most : Int) := watersmeetref06_Size.f k p.f0 p.f1 p.f2 p.f3.f0 p.f3.f1 p.f3.f2 p.f3.f3.f0 p.f3.f3.f1 p.f4.f0 p.f4.f1 p.f4.f2 p.f4.f3.f0 p.f4.f3.f1 p.f5 most
theorem list_size : ∀ (l : List SP), (∀ x ∈ l, ∃ K, ∀ k, K ≤ k → ∀ most, ∃ r, sizeF k x most = some r) → ∃ K, ∀ k, K ≤ k → ∀ i (h : i < l.length), ∀ most, ∃ r, sizeF k l[i] most = some r
  | [], _ => ⟨0, fun k _ i h => absurd h (by simp)⟩
  | x :: l, h => by
    obtain ⟨K1, h1⟩ := h x (by simp)
    obtain ⟨K2, h2⟩ := list_size l (fun y hy => h y (by simp [hy]))
    refine ⟨K1 + K2, fun k hk i hi => ?_⟩
    cases i with
    | zero => exact h1 k (by omega)
    | succ i => exact h2 k (by omega) i (by simpa using hi)
theorem size_some : ∀ (m : Nat) (p : SP), Bn m p → ∃ K, ∀ k, K ≤ k → ∀ most, ∃ r, sizeF k p most = some r := by
  intro m
  induction m with
  | zero => intro p h; exact h.elim
  | succ m ih =>
    intro p hp
    obtain ⟨hlen, hx⟩ := bn_succ hp
    obtain ⟨K, hK⟩ := list_size p.f5 (fun x hx' => ih x (hx x hx'))
    have hloop : ∀ (d i k : Nat) (most a : Int), i ≤ p.f5.length → p.f5.length - i = d → K + d < k → ∃ r, watersmeetref06_Size.l0 k most a (i : Int) p.f0 p.f1 p.f2 p.f3.f0 p.f3.f1 p.f3.f2 p.f3.f3.f0 p.f3.f3.f1 p.f4.f0 p.f4.f1 p.f4.f2 p.f4.f3.f0 p.f4.f3.f1 p.f5 = some r := by
      intro d
      induction d with
      | zero =>
        intro i k most a hi hd hk
        obtain ⟨k, rfl⟩ : ∃ m, k = m + 1 := ⟨k - 1, by omega⟩
        rw [watersmeetref06_Size.l0, if_neg (by omega)]; exact ⟨_, rfl⟩
      | succ d ihd =>
        intro i k most a hi hd hk
        obtain ⟨k, rfl⟩ : ∃ m, k = m + 1 := ⟨k - 1, by omega⟩
        have hlt : i < p.f5.length := by omega
        rw [watersmeetref06_Size.l0, if_pos (by omega)]
        split
        · rw [if_pos (by omega), rdP hlt]
          obtain ⟨r, hr⟩ := hK k (by omega) i hlt (wrap64 (most - a))
          unfold sizeF at hr
          rw [hr, Option.bind_some, wrap_succ (by omega)]
          exact ihd (i + 1) k _ _ (by omega) (by omega) (by omega)
        · exact ⟨_, rfl⟩
    refine ⟨K + p.f5.length + 5, fun k hk most => ?_⟩
    obtain ⟨k, rfl⟩ : ∃ m, k = m + 1 := ⟨k - 1, by omega⟩
    unfold sizeF
    rw [watersmeetref06_Size.f]
    exact hloop p.f5.length 0 k most 1 (by omega) (by omega) (by omega)
theorem few_some (m : Nat) (l : List SP) (hlen : l.length ≤ 9223372036854775807) (h : ∀ x ∈ l, Bn m x) : ∃ K b, ∀ k, K ≤ k → watersmeetlaw07_few.f k l = some b := by
  obtain ⟨K, hK⟩ := list_size l (fun x hx => size_some m x (h x hx))
  have hloop : ∀ (d i k : Nat) (a : Int), i ≤ l.length → l.length - i = d → K + d < k → ∃ r, watersmeetlaw07_few.l0 k l a (i : Int) = some r := by
    intro d
    induction d with
    | zero =>
      intro i k a hi hd hk
      obtain ⟨k, rfl⟩ : ∃ m, k = m + 1 := ⟨k - 1, by omega⟩
      rw [watersmeetlaw07_few.l0, if_neg (by omega)]
      split <;> exact ⟨_, rfl⟩
    | succ d ihd =>
      intro i k a hi hd hk
      obtain ⟨k, rfl⟩ : ∃ m, k = m + 1 := ⟨k - 1, by omega⟩
      have hlt : i < l.length := by omega
      rw [watersmeetlaw07_few.l0, if_pos (by omega)]
      split
      · rw [if_pos (by omega), rdP hlt]
        obtain ⟨r, hr⟩ := hK k (by omega) i hlt 200
        unfold sizeF at hr
        rw [hr, Option.bind_some, wrap_succ (by omega)]
        exact ihd (i + 1) k _ (by omega) (by omega) (by omega)
      · split <;> exact ⟨_, rfl⟩
  obtain ⟨r, hr⟩ := hloop l.length 0 (K + l.length + 1) 0 (by omega) (by omega) (by omega)
  refine ⟨K + l.length + 1, r, fun k hk => ?_⟩
  unfold watersmeetlaw07_few.f
  induction hk with
  | refl => exact hr
  | step _ ih => exact watersmeetlaw07_few.mono _ _ _ ih
theorem awake_ev : ∃ K, ∀ k, K ≤ k → watersmeetlaw07_awake.f k = some true := by
  refine ⟨70, fun k hk => ?_⟩
  induction hk with
  | refl => decide +kernel
  | step _ ih => exact watersmeetlaw07_awake.mono _ _ ih
end Go.Proofs.Ytigkkfhpnfjmhaa.MayOfRejG
