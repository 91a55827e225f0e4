/- What reject.May and the reference's Is come to: the same three truths, for every predicate and set of null tables. -/
import Derived.Test.YtigkkfhpnfjmhaaPRejTx4
import Derived.Test.YtigkkfhpnfjmhaaPRejTx7
import Derived.Test.YtigkkfhpnfjmhaaHasRejT
import Derived.Test.YtigkkfhpnfjmhaaStep
namespace Go.Proofs.Ytigkkfhpnfjmhaa.RejOfRejT
open Go.RowKit Go.Proofs.Ytigkkfhpnfjmhaa.PRejT Go.Proofs.YtigkkfhpnfjmhaaW.PrintWords Go.Proofs.YtigkkfhpnfjmhaaW.PrintLast Go.Proofs.YtigkkfhpnfjmhaaW.PrintMore Go.Proofs.Ytigkkfhpnfjmhaa.Bits Go.Proofs.Ytigkkfhpnfjmhaa.HasRejT
set_option linter.unusedVariables false
set_option linter.unusedSimpArgs false

/-- A predicate, a term; three truths. -/
abbrev SP := S46
abbrev ST := S44
abbrev T3 := Bool × Bool × Bool
/-- One truth of the three. -/
def tv (T : T3) (t : Int) : Bool := if t = 0 then T.1 else if t = 1 then T.2.1 else T.2.2
def clamp (x : Int) : Int := if 0 ≤ x ∧ x ≤ 2 then x else 1
def trip (x : Int) : T3 := (x == 0, x == 1, x == 2)
theorem andS (x : Int) {k : Nat} (hk : 4 ≤ k) : logic_And.f k [x] = some (clamp x) := by
  obtain ⟨k, rfl⟩ : ∃ m, k = m + 4 := ⟨k - 4, by omega⟩
  have hof : logic_of.f x = some (clamp x) := by
    unfold logic_of.f logic_Right.f clamp
    by_cases h1 : x ≥ 0
    · rw [if_pos h1, Option.bind_some]
      by_cases h2 : x ≤ 2
      · simp [h1, h2]
      · simp [h1, h2]
    · rw [if_neg h1, Option.bind_some]; simp [h1]
  have hc : ∀ (y : Int) (j : Nat), slices_ContainsFunc_int_int_at_logic_first_1_1.f (j + 4) [x] y = some (clamp x == y) := by
    intro y j
    unfold slices_ContainsFunc_int_int_at_logic_first_1_1.f slices_IndexFunc_int_int_at_logic_first_1_1.f
    have hl : (([x] : List Int).length : Int) = 1 := by simp
    rw [hl, slices_IndexFunc_int_int_at_logic_first_1_1.l0, if_pos (by omega), if_pos (by omega), if_pos (by omega)]
    unfold logic_first_1_1.f
    have hr : rd [x] 0 = x := by simp [rd]
    rw [hr, hof, Option.bind_some, Option.bind_some]
    by_cases h : clamp x = y
    · rw [if_pos (by simpa using h), Option.bind_some]; simp [h]
    · rw [if_neg (by simpa using h), show wrap64 (0 + 1) = 1 by decide +kernel, slices_IndexFunc_int_int_at_logic_first_1_1.l0, if_neg (by omega), Option.bind_some]
      simp [h]
  unfold logic_And.f logic_first.f logic_first_1.f
  rw [hc, Option.bind_some, Option.bind_some]
  have hcl : clamp x = 0 ∨ clamp x = 1 ∨ clamp x = 2 := by unfold clamp; split <;> omega
  rcases hcl with h | h | h
  · rw [h]; rfl
  · rw [h, hc, h]; rfl
  · rw [h, hc, h]; rfl
theorem only_f (x : Int) {k : Nat} (hk : 4 ≤ k) : reject_only.f k x = some (trip (clamp x)) := by
  unfold reject_only.f
  rw [andS x hk, Option.bind_some]
  have hcl : clamp x = 0 ∨ clamp x = 1 ∨ clamp x = 2 := by unfold clamp; split <;> omega
  rcases hcl with h | h | h <;> rw [h] <;> rfl

/-- Is a term null for sure? -/
def nullB (t : ST) (n : Nat) : Bool := if t.f0 = 1 then hasB n t.f1 else t.f3.f0
theorem isNull_f (t : ST) {n : Nat} (hn : n < 18446744073709551616) : reject_isNull.f t.f0 t.f1 t.f2 t.f3.f0 t.f3.f1 (n : Int) = some (nullB t n) := by
  unfold reject_isNull.f nullB
  by_cases h : t.f0 = 1
  · rw [if_pos h, if_pos h, has_f hn, Option.bind_some]
  · rw [if_neg h, if_neg h]
theorem sure_f (t : ST) {n : Nat} (hn : n < 18446744073709551616) {k : Nat} (hk : 64 ≤ k) : watersmeetref07_sure.f k t.f0 t.f1 t.f2 t.f3.f0 t.f3.f1 (n : Int) = some (nullB t n) := by
  unfold watersmeetref07_sure.f nullB
  by_cases h : t.f0 = 1
  · rw [if_pos h, if_pos h, ref_has_f hn _ hk, Option.bind_some]
    cases hasB n t.f1 <;> rfl
  · rw [if_neg h, if_neg h]

/-- What may be made of two. -/
def andV (a x : T3) : T3 := ((a.1 && (x.1 || x.2.1 || x.2.2)) || (x.1 && (a.1 || a.2.1 || a.2.2)), (a.2.1 && (x.2.1 || x.2.2)) || (a.2.2 && x.2.1), a.2.2 && x.2.2)
def orV (a x : T3) : T3 := (a.1 && x.1, (a.2.1 && (x.1 || x.2.1)) || (a.1 && x.2.1), (a.2.2 && (x.1 || x.2.1 || x.2.2)) || (x.2.2 && (a.1 || a.2.1 || a.2.2)))
theorem bothA (k : Nat) (a x : T3) : reject_both_at_logic_And.f k a.1 a.2.1 a.2.2 x.1 x.2.1 x.2.2 = some (andV a x) := by
  obtain ⟨a0, a1, a2⟩ := a
  obtain ⟨x0, x1, x2⟩ := x
  revert a0 a1 a2 x0 x1 x2
  have : ∀ a0 a1 a2 x0 x1 x2 : Bool, (reject_both_at_logic_And.out a0 a1 a2 x0 x1 x2 9 0, reject_both_at_logic_And.out a0 a1 a2 x0 x1 x2 9 1, reject_both_at_logic_And.out a0 a1 a2 x0 x1 x2 9 2) = andV (a0, a1, a2) (x0, x1, x2) := by decide +kernel
  intro a0 a1 a2 x0 x1 x2
  unfold reject_both_at_logic_And.f
  rw [this]
theorem bothO (k : Nat) (a x : T3) : reject_both_at_logic_Or.f k a.1 a.2.1 a.2.2 x.1 x.2.1 x.2.2 = some (orV a x) := by
  obtain ⟨a0, a1, a2⟩ := a
  obtain ⟨x0, x1, x2⟩ := x
  revert a0 a1 a2 x0 x1 x2
  have : ∀ a0 a1 a2 x0 x1 x2 : Bool, (reject_both_at_logic_Or.out a0 a1 a2 x0 x1 x2 9 0, reject_both_at_logic_Or.out a0 a1 a2 x0 x1 x2 9 1, reject_both_at_logic_Or.out a0 a1 a2 x0 x1 x2 9 2) = orV (a0, a1, a2) (x0, x1, x2) := by decide +kernel
  intro a0 a1 a2 x0 x1 x2
  unfold reject_both_at_logic_Or.f
  rw [this]

def mayF (k : Nat) (p : SP) (n : Int) := reject_May.f k p.f0 p.f1 p.f2 p.f3.f0 p.f3.f1 p.f3.f2 p.f3.f3.f0 p.f3.f3.f1 p.f4.f0 p.f4.f1 p.f4.f2 p.f4.f3.f0 p.f4.f3.f1 p.f5 n
def isF (k : Nat) (p : SP) (n t : Int) := watersmeetref07_Is.f k p.f0 p.f1 p.f2 p.f3.f0 p.f3.f1 p.f3.f2 p.f3.f3.f0 p.f3.f3.f1 p.f4.f0 p.f4.f1 p.f4.f2 p.f4.f3.f0 p.f4.f3.f1 p.f5 n t
/-- Both tell these truths, with so many rounds. -/
def Tell (k : Nat) (n : Int) (p : SP) (T : T3) : Prop := mayF k p n = some T ∧ isF k p n 0 = some T.1 ∧ isF k p n 1 = some T.2.1 ∧ isF k p n 2 = some T.2.2
def GoodT (n : Int) (p : SP) (T : T3) : Prop := ∃ K, ∀ k, K ≤ k → Tell k n p T
theorem Tell.is {k : Nat} {n : Int} {p : SP} {T : T3} (h : Tell k n p T) {t : Int} (ht : t = 0 ∨ t = 1 ∨ t = 2) : isF k p n t = some (tv T t) := by
  obtain ⟨_, h0, h1, h2⟩ := h
  rcases ht with rfl | rfl | rfl
  · exact h0
  · exact h1
  · exact h2
theorem rdP {l : List SP} {i : Nat} (h : i < l.length) : rd_T46 l (i : Int) = l[i] := by simp [rd_T46, h]

/-- The lists of the parts' truths. -/
def allB (l : List T3) : Bool := l.all (fun x => x.1 || x.2.1 || x.2.2)
def evB (l : List T3) (t u : Int) : Bool := l.all (fun x => tv x t || tv x u)
def soB (l : List T3) (t : Int) : Bool := l.any (fun x => tv x t)
section lists
variable {n : Int} {l : List SP} {ts : List T3} {K : Nat} (hlen : l.length ≤ 9223372036854775807) (ht : ts.length = l.length) (hT : ∀ k, K ≤ k → ∀ i (h : i < l.length), Tell k n l[i] (ts[i]'(by omega)))
include hlen ht hT
theorem all_loop : ∀ (d i k : Nat), i ≤ l.length → l.length - i = d → K + d < k → watersmeetref07_all.l0 k l n (i : Int) = some (allB (ts.drop i)) := by
  intro d
  induction d with
  | zero =>
    intro i k hi hd hk
    obtain ⟨k, rfl⟩ : ∃ m, k = m + 1 := ⟨k - 1, by omega⟩
    rw [watersmeetref07_all.l0, if_neg (by omega), List.drop_of_length_le (by omega)]; rfl
  | succ d ih =>
    intro i k hi hd hk
    obtain ⟨k, rfl⟩ : ∃ m, k = m + 1 := ⟨k - 1, by omega⟩
    have hlt : i < l.length := by omega
    have hx := hT k (by omega) i hlt
    have h0 := hx.is (t := 0) (by omega)
    have h1 := hx.is (t := 1) (by omega)
    have h2 := hx.is (t := 2) (by omega)
    unfold isF at h0 h1 h2
    have e := ih (i + 1) k (by omega) (by omega) (by omega)
    rw [watersmeetref07_all.l0, if_pos (by omega), if_pos (by omega), rdP hlt, h0, h1, h2, wrap_succ (by omega), e, List.drop_eq_getElem_cons (by omega : i < ts.length)]
    simp only [Option.bind_some, allB, List.all_cons, tv]
    generalize ts[i]'(by omega) = x
    obtain ⟨x0, x1, x2⟩ := x
    cases x0 <;> cases x1 <;> cases x2 <;> simp
theorem every_loop {t u : Int} (h1 : t = 0 ∨ t = 1 ∨ t = 2) (h2 : u = 0 ∨ u = 1 ∨ u = 2) : ∀ (d i k : Nat), i ≤ l.length → l.length - i = d → K + d < k → watersmeetref07_every.l0 k l n t u (i : Int) = some (evB (ts.drop i) t u) := by
  intro d
  induction d with
  | zero =>
    intro i k hi hd hk
    obtain ⟨k, rfl⟩ : ∃ m, k = m + 1 := ⟨k - 1, by omega⟩
    rw [watersmeetref07_every.l0, if_neg (by omega), List.drop_of_length_le (by omega)]; rfl
  | succ d ih =>
    intro i k hi hd hk
    obtain ⟨k, rfl⟩ : ∃ m, k = m + 1 := ⟨k - 1, by omega⟩
    have hlt : i < l.length := by omega
    have hx := hT k (by omega) i hlt
    have e1 := hx.is h1
    have e2 := hx.is h2
    unfold isF at e1 e2
    have e := ih (i + 1) k (by omega) (by omega) (by omega)
    rw [watersmeetref07_every.l0, if_pos (by omega), if_pos (by omega), rdP hlt, e1, e2, wrap_succ (by omega), e, List.drop_eq_getElem_cons (by omega : i < ts.length)]
    simp only [Option.bind_some, evB, List.all_cons]
    cases tv (ts[i]'(by omega)) t <;> cases tv (ts[i]'(by omega)) u <;> simp
theorem some_loop {t : Int} (h1 : t = 0 ∨ t = 1 ∨ t = 2) : ∀ (d i k : Nat), i ≤ l.length → l.length - i = d → K + d < k → watersmeetref07_some.l0 k l n t (i : Int) = some (soB (ts.drop i) t) := by
  intro d
  induction d with
  | zero =>
    intro i k hi hd hk
    obtain ⟨k, rfl⟩ : ∃ m, k = m + 1 := ⟨k - 1, by omega⟩
    rw [watersmeetref07_some.l0, if_neg (by omega), List.drop_of_length_le (by omega)]; rfl
  | succ d ih =>
    intro i k hi hd hk
    obtain ⟨k, rfl⟩ : ∃ m, k = m + 1 := ⟨k - 1, by omega⟩
    have hlt : i < l.length := by omega
    have e1 := (hT k (by omega) i hlt).is h1
    unfold isF at e1
    have e := ih (i + 1) k (by omega) (by omega) (by omega)
    rw [watersmeetref07_some.l0, if_pos (by omega), if_pos (by omega), rdP hlt, e1, wrap_succ (by omega), e, List.drop_eq_getElem_cons (by omega : i < ts.length)]
    simp only [Option.bind_some, soB, List.any_cons]
    cases tv (ts[i]'(by omega)) t <;> simp
theorem or_loop : ∀ (d i k : Nat) (o : T3), i ≤ l.length → l.length - i = d → K + d < k → reject_May.l0 k n l (l.length : Int) (i : Int) o.1 o.2.1 o.2.2 = some ((ts.drop i).foldl orV o) := by
  intro d
  induction d with
  | zero =>
    intro i k o hi hd hk
    obtain ⟨k, rfl⟩ : ∃ m, k = m + 1 := ⟨k - 1, by omega⟩
    rw [reject_May.l0, if_neg (by omega), List.drop_of_length_le (by omega)]; rfl
  | succ d ih =>
    intro i k o hi hd hk
    obtain ⟨k, rfl⟩ : ∃ m, k = m + 1 := ⟨k - 1, by omega⟩
    have hlt : i < l.length := by omega
    have hx := (hT k (by omega) i hlt).1
    unfold mayF at hx
    rw [reject_May.l0, if_pos (by omega), if_pos (by omega), if_pos (by omega), rdP hlt, hx, Option.bind_some, bothO, Option.bind_some, wrap_succ (by omega), ih (i + 1) k _ (by omega) (by omega) (by omega), List.drop_eq_getElem_cons (by omega : i < ts.length), List.foldl_cons]
theorem and_loop : ∀ (d i k : Nat) (o : T3), i ≤ l.length → l.length - i = d → K + d < k → reject_May.l101 k n l (l.length : Int) (i : Int) o.1 o.2.1 o.2.2 = some ((ts.drop i).foldl andV o) := by
  intro d
  induction d with
  | zero =>
    intro i k o hi hd hk
    obtain ⟨k, rfl⟩ : ∃ m, k = m + 1 := ⟨k - 1, by omega⟩
    rw [reject_May.l101, if_neg (by omega), List.drop_of_length_le (by omega)]; rfl
  | succ d ih =>
    intro i k o hi hd hk
    obtain ⟨k, rfl⟩ : ∃ m, k = m + 1 := ⟨k - 1, by omega⟩
    have hlt : i < l.length := by omega
    have hx := (hT k (by omega) i hlt).1
    unfold mayF at hx
    rw [reject_May.l101, if_pos (by omega), if_pos (by omega), if_pos (by omega), rdP hlt, hx, Option.bind_some, bothA, Option.bind_some, wrap_succ (by omega), ih (i + 1) k _ (by omega) (by omega) (by omega), List.drop_eq_getElem_cons (by omega : i < ts.length), List.foldl_cons]
end lists
theorem fold_and : ∀ (l : List T3) (o : T3), l.foldl andV o = ((o.1 || o.2.1 || o.2.2) && (allB l && (o.1 || soB l 0)), (o.2.1 || o.2.2) && (evB l 1 2 && (o.2.1 || soB l 1)), o.2.2 && evB l 2 2)
  | [], o => by
    obtain ⟨a, b, c⟩ := o
    cases a <;> cases b <;> cases c <;> rfl
  | x :: l, o => by
    rw [List.foldl_cons, fold_and l]
    simp only [allB, evB, soB, List.all_cons, List.any_cons]
    generalize (l.all fun x => x.1 || x.2.1 || x.2.2) = q0
    generalize (l.any fun x => tv x 0) = q1
    generalize (l.all fun x => tv x 1 || tv x 2) = q2
    generalize (l.any fun x => tv x 1) = q3
    generalize (l.all fun x => tv x 2 || tv x 2) = q4
    obtain ⟨a, b, c⟩ := o
    obtain ⟨u, v, w⟩ := x
    revert a b c u v w q0 q1 q2 q3 q4
    decide +kernel
theorem fold_or : ∀ (l : List T3) (o : T3), l.foldl orV o = (o.1 && evB l 0 0, (o.1 || o.2.1) && (evB l 1 0 && (o.2.1 || soB l 1)), (o.1 || o.2.1 || o.2.2) && (allB l && (o.2.2 || soB l 2)))
  | [], o => by
    obtain ⟨a, b, c⟩ := o
    cases a <;> cases b <;> cases c <;> rfl
  | x :: l, o => by
    rw [List.foldl_cons, fold_or l]
    simp only [allB, evB, soB, List.all_cons, List.any_cons]
    generalize (l.all fun x => x.1 || x.2.1 || x.2.2) = q0
    generalize (l.any fun x => tv x 2) = q1
    generalize (l.all fun x => tv x 1 || tv x 0) = q2
    generalize (l.any fun x => tv x 1) = q3
    generalize (l.all fun x => tv x 0 || tv x 0) = q4
    obtain ⟨a, b, c⟩ := o
    obtain ⟨u, v, w⟩ := x
    revert a b c u v w q0 q1 q2 q3 q4
    decide +kernel
theorem ev_all {t u : Int} (h1 : t = 0 ∨ t = 1 ∨ t = 2) (h2 : u = 0 ∨ u = 1 ∨ u = 2) : ∀ (l : List T3), (allB l && evB l t u) = evB l t u
  | [] => rfl
  | x :: l => by
    have ih := ev_all h1 h2 l
    simp only [allB, evB, List.all_cons] at ih ⊢
    generalize (l.all fun x => x.1 || x.2.1 || x.2.2) = q0 at *
    generalize (l.all fun x => tv x t || tv x u) = q1 at *
    obtain ⟨a, b, c⟩ := x
    rcases h1 with rfl | rfl | rfl <;> rcases h2 with rfl | rfl | rfl <;> cases a <;> cases b <;> cases c <;> cases q0 <;> cases q1 <;> simp_all [tv]
end Go.Proofs.Ytigkkfhpnfjmhaa.RejOfRejT
