/- reject.May and the reference tell the same three truths of every predicate within bounds. -/
import Derived.Test.YtigkkfhpnfjmhaaPRejTx2
import Derived.Test.YtigkkfhpnfjmhaaPRejTx5
import Derived.Test.YtigkkfhpnfjmhaaPRejTx2
import Derived.Test.YtigkkfhpnfjmhaaPRejTx8
import Derived.Test.YtigkkfhpnfjmhaaPRejTx6
import Derived.Test.YtigkkfhpnfjmhaaRejOfRejT
namespace Go.Proofs.Ytigkkfhpnfjmhaa.RejGoodRejT
open Go.RowKit Go.Proofs.Ytigkkfhpnfjmhaa.PRejT Go.Proofs.YtigkkfhpnfjmhaaW.PrintWords Go.Proofs.YtigkkfhpnfjmhaaW.PrintLast Go.Proofs.YtigkkfhpnfjmhaaW.PrintMore Go.Proofs.Ytigkkfhpnfjmhaa.Bits Go.Proofs.Ytigkkfhpnfjmhaa.HasRejT Go.Proofs.Ytigkkfhpnfjmhaa.RejOfRejT Go.Proofs.Ytigkkfhpnfjmhaa.Opens
set_option linter.unusedVariables false
set_option linter.unusedSimpArgs false

abbrev Bn (m : Nat) (p : SP) : Prop := bn46 m p
theorem bn_succ {m : Nat} {p : SP} (h : Bn (m + 1) p) : p.f5.length ≤ 9223372036854775807 ∧ ∀ x ∈ p.f5, Bn m x := by
  obtain ⟨_, _, _, _, _, h1, _, h2⟩ := h
  exact ⟨h1, h2⟩
theorem bn_mono : ∀ {m : Nat} {p : SP}, Bn m p → Bn (m + 1) p
  | 0, p, h => h.elim
  | m + 1, p, h => by
    obtain ⟨a0, a1, a2, a3, a4, h1, h3, h2⟩ := h
    exact ⟨a0, a1, a2, a3, a4, h1, h3, fun x hx => bn_mono (h2 x hx)⟩
theorem bn_le {m m' : Nat} {p : SP} (h : Bn m p) (hm : m ≤ m') : Bn m' p := by
  induction hm with
  | refl => exact h
  | step _ ih => exact bn_mono ih
theorem bs_of {l : List SP} (h : SliceB 128 b46 l) : ∃ m, l.length ≤ 9223372036854775807 ∧ ∀ x ∈ l, Bn m x := by
  obtain ⟨h1, _, h2⟩ := h
  have : ∀ l : List SP, (∀ x ∈ l, b46 x) → ∃ m, ∀ x ∈ l, Bn m x := by
    intro l
    induction l with
    | nil => intro _; exact ⟨0, by simp⟩
    | cons x l ih =>
      intro h
      obtain ⟨m1, h1⟩ := h x (by simp)
      obtain ⟨m2, h2⟩ := ih (fun y hy => h y (by simp [hy]))
      refine ⟨m1 + m2, fun y hy => ?_⟩
      rcases List.mem_cons.1 hy with rfl | hy
      · exact bn_le h1 (by omega)
      · exact bn_le (h2 y hy) (by omega)
  obtain ⟨m, hm⟩ := this l h2
  exact ⟨m, h1, hm⟩
theorem list_good {n : Int} : ∀ (l : List SP), (∀ x ∈ l, ∃ T, GoodT n x T) → ∃ (ts : List T3) (K : Nat), ∃ (ht : ts.length = l.length), ∀ k, K ≤ k → ∀ i (h : i < l.length), Tell k n l[i] (ts[i]'(by omega))
  | [], _ => ⟨[], 0, rfl, fun k _ i h => absurd h (by simp)⟩
  | x :: l, h => by
    obtain ⟨T, K1, h1⟩ := h x (by simp)
    obtain ⟨ts, K2, ht, h2⟩ := list_good l (fun y hy => h y (by simp [hy]))
    refine ⟨T :: ts, K1 + K2, by simp [ht], fun k hk i hi => ?_⟩
    cases i with
    | zero => exact h1 k (by omega)
    | succ i => exact h2 k (by omega) i (by simpa using hi)
section
variable {n : Nat} (hn : n < 18446744073709551616) {l : List SP} (hlen : l.length ≤ 9223372036854775807) {ts : List T3} {K : Nat} (ht : ts.length = l.length) (hT : ∀ k, K ≤ k → ∀ i (h : i < l.length), Tell k (n : Int) l[i] (ts[i]'(by omega)))
include hlen ht hT
theorem many2 {t : Int} (h : t = 0 ∨ t = 1 ∨ t = 2) {k : Nat} (hk : K + l.length + 8 < k) : watersmeetref07_many.f k l (n : Int) t 2 = some (tv (ts.foldl andV (false, false, true)) t) := by
  obtain ⟨k, rfl⟩ : ∃ m, k = m + 2 := ⟨k - 2, by omega⟩
  have ha := all_loop (n := (n : Int)) hlen ht hT l.length 0 k (by omega) (by omega) (by omega)
  have he2 := every_loop (n := (n : Int)) (t := 2) (u := 2) hlen ht hT (by omega) (by omega) l.length 0 k (by omega) (by omega) (by omega)
  have he1 := every_loop (n := (n : Int)) (t := 1) (u := 2) hlen ht hT (by omega) (by omega) l.length 0 k (by omega) (by omega) (by omega)
  have hs1 := some_loop (n := (n : Int)) (t := 1) hlen ht hT (by omega) l.length 0 k (by omega) (by omega) (by omega)
  have hs0 := some_loop (n := (n : Int)) (t := 0) hlen ht hT (by omega) l.length 0 k (by omega) (by omega) (by omega)
  simp only [List.drop_zero, Int.natCast_zero] at ha he2 he1 hs1 hs0
  have hw : wrap64 (2 - 2) = 0 := by decide +kernel
  have f1 := ev_all (t := 2) (u := 2) (by omega) (by omega) ts
  have f2 := ev_all (t := 1) (u := 2) (by omega) (by omega) ts
  have S0 : watersmeetref07_some.f (k + 1) l (n : Int) 0 = some (soB ts 0) := by rw [watersmeetref07_some.f]; exact hs0
  have S1 : watersmeetref07_some.f (k + 1) l (n : Int) 1 = some (soB ts 1) := by rw [watersmeetref07_some.f]; exact hs1
  have E1 : watersmeetref07_every.f (k + 1) l (n : Int) 1 2 = some (evB ts 1 2) := by rw [watersmeetref07_every.f]; exact he1
  have E2 : watersmeetref07_every.f (k + 1) l (n : Int) 2 2 = some (evB ts 2 2) := by rw [watersmeetref07_every.f]; exact he2
  rw [watersmeetref07_many.f, watersmeetref07_all.f, ha, Option.bind_some, fold_and]
  rcases h with rfl | rfl | rfl
  · simp only [hw, S0, S1, E1, E2, Option.bind_some]
    cases allB ts <;> simp [tv]
  · simp only [hw, S0, S1, E1, E2, Option.bind_some]
    revert f2
    cases allB ts <;> cases soB ts 1 <;> cases evB ts 1 2 <;> simp [tv]
  · simp only [hw, S0, S1, E1, E2, Option.bind_some]
    revert f1
    cases allB ts <;> cases evB ts 2 2 <;> simp [tv]
theorem many0 {t : Int} (h : t = 0 ∨ t = 1 ∨ t = 2) {k : Nat} (hk : K + l.length + 8 < k) : watersmeetref07_many.f k l (n : Int) t 0 = some (tv (ts.foldl orV (true, false, false)) t) := by
  obtain ⟨k, rfl⟩ : ∃ m, k = m + 2 := ⟨k - 2, by omega⟩
  have ha := all_loop (n := (n : Int)) hlen ht hT l.length 0 k (by omega) (by omega) (by omega)
  have he2 := every_loop (n := (n : Int)) (t := 0) (u := 0) hlen ht hT (by omega) (by omega) l.length 0 k (by omega) (by omega) (by omega)
  have he1 := every_loop (n := (n : Int)) (t := 1) (u := 0) hlen ht hT (by omega) (by omega) l.length 0 k (by omega) (by omega) (by omega)
  have hs1 := some_loop (n := (n : Int)) (t := 1) hlen ht hT (by omega) l.length 0 k (by omega) (by omega) (by omega)
  have hs0 := some_loop (n := (n : Int)) (t := 2) hlen ht hT (by omega) l.length 0 k (by omega) (by omega) (by omega)
  simp only [List.drop_zero, Int.natCast_zero] at ha he2 he1 hs1 hs0
  have hw : wrap64 (2 - 0) = 2 := by decide +kernel
  have f1 := ev_all (t := 0) (u := 0) (by omega) (by omega) ts
  have f2 := ev_all (t := 1) (u := 0) (by omega) (by omega) ts
  have S0 : watersmeetref07_some.f (k + 1) l (n : Int) 2 = some (soB ts 2) := by rw [watersmeetref07_some.f]; exact hs0
  have S1 : watersmeetref07_some.f (k + 1) l (n : Int) 1 = some (soB ts 1) := by rw [watersmeetref07_some.f]; exact hs1
  have E1 : watersmeetref07_every.f (k + 1) l (n : Int) 1 0 = some (evB ts 1 0) := by rw [watersmeetref07_every.f]; exact he1
  have E2 : watersmeetref07_every.f (k + 1) l (n : Int) 0 0 = some (evB ts 0 0) := by rw [watersmeetref07_every.f]; exact he2
  rw [watersmeetref07_many.f, watersmeetref07_all.f, ha, Option.bind_some, fold_or]
  rcases h with rfl | rfl | rfl
  · simp only [hw, S0, S1, E1, E2, Option.bind_some]
    revert f1
    cases allB ts <;> cases evB ts 0 0 <;> simp [tv]
  · simp only [hw, S0, S1, E1, E2, Option.bind_some]
    revert f2
    cases allB ts <;> cases soB ts 1 <;> cases evB ts 1 0 <;> simp [tv]
  · simp only [hw, S0, S1, E1, E2, Option.bind_some]
    cases allB ts <;> simp [tv]
end
theorem clamp_is {x : Int} (h : x = 0 ∨ x = 1 ∨ x = 2) : clamp x = x := by unfold clamp; rw [if_pos (by omega)]
theorem trip_eta (k : Nat) (hk : 4 ≤ k) (x : Int) : (reject_only.f k x).bind (fun bt => some (bt.1, bt.2.1, bt.2.2)) = some (trip (clamp x)) := by rw [only_f x hk]; rfl
theorem cmp_v {op : Int} (h0 : ¬ op < 1) (h1 : ¬ op > 6) (a b : Int) : value_Compare.v op false a false b = 0 ∨ value_Compare.v op false a false b = 1 ∨ value_Compare.v op false a false b = 2 := by
  unfold value_Compare.v value_Compare.tab
  rw [if_neg (show ¬ (op < 1 ∨ op > 6 ∨ false = true ∨ false = true) by rintro (h | h | h | h) <;> first | omega | cases h)]
  repeat' split
  all_goals omega
theorem refcmp_f {op : Int} (h0 : ¬ op < 1) (h1 : ¬ op > 6) (a b : Int) (k : Nat) : watersmeetref03_Compare.f (k + 1) op false a false b = some (value_Compare.v op false a false b) := by
  unfold watersmeetref03_Compare.f value_Compare.v value_Compare.tab value_Compare.side
  rw [if_neg (show ¬ (op < 1 ∨ op > 6 ∨ false = true ∨ false = true) by rintro (h | h | h | h) <;> first | omega | cases h), if_neg (by simp), watersmeetref03_Compare.j0, if_neg (by simp)]
  unfold watersmeetref03_truth.f
  have h : op = 1 ∨ op = 2 ∨ op = 3 ∨ op = 4 ∨ op = 5 ∨ op = 6 := by omega
  rcases Int.lt_trichotomy a b with q | q | q
  · have q2 : ¬ a = b := by omega
    have q3 : a ≤ b := by omega
    have q4 : ¬ b < a := by omega
    have q5 : ¬ b ≤ a := by omega
    rcases h with rfl | rfl | rfl | rfl | rfl | rfl <;> simp [q, q2, q3, q4, q5]
  · subst q
    rcases h with rfl | rfl | rfl | rfl | rfl | rfl <;> simp
  · have q2 : ¬ a = b := by omega
    have q3 : b ≤ a := by omega
    have q4 : ¬ a < b := by omega
    have q5 : ¬ a ≤ b := by omega
    rcases h with rfl | rfl | rfl | rfl | rfl | rfl <;> simp [q, q2, q3, q4, q5]
theorem good {n : Nat} (hn : n < 18446744073709551616) : ∀ (m : Nat) (p : SP), Bn m p → ∃ T, GoodT (n : Int) p T := by
  intro m
  induction m with
  | zero => intro p h; exact h.elim
  | succ m ih =>
    intro p hp
    obtain ⟨hlen, hx⟩ := bn_succ hp
    obtain ⟨ts, K, ht, hT⟩ := list_good p.f5 (fun x hx' => ih x (hx x hx'))
    have nA := isNull_f p.f3 hn
    have nB := isNull_f p.f4 hn
    by_cases k1 : p.f0 = 1
    · refine ⟨trip (clamp p.f1), 10, fun k hk => ?_⟩
      obtain ⟨k, rfl⟩ : ∃ m, k = m + 1 := ⟨k - 1, by omega⟩
      unfold Tell mayF isF
      rw [reject_May.f, if_pos k1, trip_eta k (by omega)]
      simp only [watersmeetref07_Is.f, k1, if_true]
      by_cases c0 : p.f1 = 0
      · simp [c0, trip, clamp]
      by_cases c1 : p.f1 = 1
      · simp [c1, trip, clamp]
      by_cases c2 : p.f1 = 2
      · simp [c2, trip, clamp]
      have hcl : clamp p.f1 = 1 := by unfold clamp; rw [if_neg (by omega)]
      rw [hcl, if_neg (Ne.symm c0), if_neg (Ne.symm c1), if_neg (Ne.symm c2)]
      refine ⟨trivial, rfl, ?_, rfl⟩
      by_cases c3 : p.f1 < 0
      · simp [c3, trip]
      · have c4 : p.f1 > 2 := by omega
        simp [c3, c4, trip]
    by_cases k2 : p.f0 = 2
    · have key : ∀ (T : T3), (∀ k, 10 ≤ k → reject_compares.f k p.f0 p.f1 p.f2 p.f3.f0 p.f3.f1 p.f3.f2 p.f3.f3.f0 p.f3.f3.f1 p.f4.f0 p.f4.f1 p.f4.f2 p.f4.f3.f0 p.f4.f3.f1 p.f5 (n : Int) = some T) →
          (∀ k, 80 ≤ k → isF k p n 0 = some T.1 ∧ isF k p n 1 = some T.2.1 ∧ isF k p n 2 = some T.2.2) → GoodT (n : Int) p T := by
        intro T h1 h2
        refine ⟨80, fun k hk => ⟨?_, h2 k hk⟩⟩
        obtain ⟨k, rfl⟩ : ∃ m, k = m + 1 := ⟨k - 1, by omega⟩
        unfold mayF
        rw [reject_May.f, if_neg k1, if_pos k2, h1 k (by omega)]; rfl
      by_cases o1 : p.f2 < 1
      · refine ⟨trip 1, key _ (fun k hk => ?_) (fun k hk => ?_)⟩
        · obtain ⟨k, rfl⟩ : ∃ m, k = m + 1 := ⟨k - 1, by omega⟩
          unfold reject_compares.f
          rw [if_pos o1, reject_compares.j0, if_pos rfl, trip_eta k (by omega)]; rfl
        · obtain ⟨k, rfl⟩ : ∃ m, k = m + 1 := ⟨k - 1, by omega⟩
          unfold isF
          simp only [watersmeetref07_Is.f]
          rw [if_neg k1, if_pos k2, if_pos o1, if_neg k1, if_pos k2, if_pos o1, if_neg k1, if_pos k2, if_pos o1]
          (refine ⟨?_, ?_, ?_⟩ <;> first | trivial | rfl)
      by_cases o2 : p.f2 > 6
      · refine ⟨trip 1, key _ (fun k hk => ?_) (fun k hk => ?_)⟩
        · obtain ⟨k, rfl⟩ : ∃ m, k = m + 1 := ⟨k - 1, by omega⟩
          unfold reject_compares.f
          rw [if_neg o1, if_pos o2, reject_compares.j0, if_pos rfl, trip_eta k (by omega)]; rfl
        · obtain ⟨k, rfl⟩ : ∃ m, k = m + 1 := ⟨k - 1, by omega⟩
          unfold isF
          simp only [watersmeetref07_Is.f]
          rw [if_neg k1, if_pos k2, if_neg o1, if_pos o2, if_neg k1, if_pos k2, if_neg o1, if_pos o2, if_neg k1, if_pos k2, if_neg o1, if_pos o2]
          (refine ⟨?_, ?_, ?_⟩ <;> first | trivial | rfl)
      have isE : ∀ k, 70 ≤ k → ∀ t : Int, isF (k + 1) p n t = (if nullB p.f3 n = true then some (t == 1) else if nullB p.f4 n = true then some (t == 1) else if p.f3.f0 = 1 then some true else if p.f4.f0 = 1 then some true else (watersmeetref03_Compare.f k p.f2 p.f3.f3.f0 p.f3.f3.f1 p.f4.f3.f0 p.f4.f3.f1).bind fun v => some (t == v)) := by
        intro k hk t
        unfold isF
        rw [watersmeetref07_Is.f, if_neg k1, if_pos k2, if_neg o1, if_neg o2, sure_f p.f3 hn (by omega), Option.bind_some, sure_f p.f4 hn (by omega), Option.bind_some]
      have cE : ∀ k, 8 ≤ k → reject_compares.f (k + 1) p.f0 p.f1 p.f2 p.f3.f0 p.f3.f1 p.f3.f2 p.f3.f3.f0 p.f3.f3.f1 p.f4.f0 p.f4.f1 p.f4.f2 p.f4.f3.f0 p.f4.f3.f1 p.f5 (n : Int) =
          (if nullB p.f3 n = true then some (trip 1) else if nullB p.f4 n = true then some (trip 1) else if p.f3.f0 = 1 then some (true, true, true) else if p.f4.f0 = 1 then some (true, true, true) else some (trip (clamp (value_Compare.v p.f2 p.f3.f3.f0 p.f3.f3.f1 p.f4.f3.f0 p.f4.f3.f1)))) := by
        intro k hk
        obtain ⟨k, rfl⟩ : ∃ m, k = m + 1 := ⟨k - 1, by omega⟩
        unfold reject_compares.f
        rw [if_neg o1, if_neg o2, nA, Option.bind_some]
        by_cases c1 : nullB p.f3 n = true
        · rw [if_pos c1, if_pos c1, reject_compares.j0, if_pos rfl, trip_eta _ (by omega)]; rfl
        · rw [if_neg c1, if_neg c1, nB, Option.bind_some, reject_compares.j0]
          by_cases c2 : nullB p.f4 n = true
          · rw [if_pos c2, if_pos c2, trip_eta _ (by omega)]; rfl
          · rw [if_neg c2, if_neg c2]
            by_cases c3 : p.f3.f0 = 1
            · rw [if_pos c3, if_pos c3, reject_compares.j1, if_neg (by simp)]
            · rw [if_neg c3, if_neg c3, reject_compares.j1]
              by_cases c4 : p.f4.f0 = 1
              · rw [if_pos c4, if_neg (by simp [c4])]
              · rw [if_neg c4, if_pos (by simpa using c4)]
                unfold value_Compare.f
                rw [Option.bind_some, trip_eta _ (by omega)]
      have good2 : ∀ T : T3, (if nullB p.f3 n = true then trip 1 else if nullB p.f4 n = true then trip 1 else if p.f3.f0 = 1 then (true, true, true) else if p.f4.f0 = 1 then (true, true, true) else trip (clamp (value_Compare.v p.f2 p.f3.f3.f0 p.f3.f3.f1 p.f4.f3.f0 p.f4.f3.f1))) = T → ∃ T, GoodT (n : Int) p T := by
        intro T hTT
        refine ⟨T, key T (fun k hk => ?_) (fun k hk => ?_)⟩
        · obtain ⟨k, rfl⟩ : ∃ m, k = m + 1 := ⟨k - 1, by omega⟩
          rw [cE k (by omega), ← hTT]
          repeat' split
          all_goals rfl
        · obtain ⟨k, rfl⟩ : ∃ m, k = m + 2 := ⟨k - 2, by omega⟩
          rw [isE (k + 1) (by omega), isE (k + 1) (by omega), isE (k + 1) (by omega), ← hTT]
          by_cases c1 : nullB p.f3 n = true
          · simp only [if_pos c1]; (refine ⟨?_, ?_, ?_⟩ <;> first | trivial | rfl)
          by_cases c2 : nullB p.f4 n = true
          · simp only [if_neg c1, if_pos c2]; (refine ⟨?_, ?_, ?_⟩ <;> first | trivial | rfl)
          by_cases c3 : p.f3.f0 = 1
          · simp only [if_neg c1, if_neg c2, if_pos c3]; (refine ⟨?_, ?_, ?_⟩ <;> first | trivial | rfl)
          by_cases c4 : p.f4.f0 = 1
          · simp only [if_neg c1, if_neg c2, if_neg c3, if_pos c4]; (refine ⟨?_, ?_, ?_⟩ <;> first | trivial | rfl)
          have q1 : p.f3.f3.f0 = false := by unfold nullB at c1; rw [if_neg c3] at c1; simpa using c1
          have q2 : p.f4.f3.f0 = false := by unfold nullB at c2; rw [if_neg c4] at c2; simpa using c2
          simp only [if_neg c1, if_neg c2, if_neg c3, if_neg c4, q1, q2]
          rw [refcmp_f o1 o2]
          have hv := cmp_v o1 o2 p.f3.f3.f1 p.f4.f3.f1
          rw [clamp_is hv]
          rcases hv with h | h | h <;> rw [h] <;> (refine ⟨?_, ?_, ?_⟩ <;> first | trivial | rfl)
      exact good2 _ rfl
    by_cases k3 : p.f0 = 3
    · by_cases c : nullB p.f3 n = true
      · refine ⟨trip 2, 80, fun k hk => ?_⟩
        obtain ⟨k, rfl⟩ : ∃ m, k = m + 1 := ⟨k - 1, by omega⟩
        unfold Tell mayF isF
        rw [reject_May.f, if_neg k1, if_neg k2, if_pos k3, nA, Option.bind_some, if_pos c, trip_eta k (by omega)]
        simp only [watersmeetref07_Is.f]
        simp only [if_neg k1, if_neg k2, if_pos k3, sure_f p.f3 hn (show 64 ≤ k by omega), Option.bind_some, if_pos c]
        refine ⟨?_, ?_, ?_, ?_⟩ <;> first | trivial | rfl
      · refine ⟨(true, false, (p.f3.f0 == 1)), 80, fun k hk => ?_⟩
        obtain ⟨k, rfl⟩ : ∃ m, k = m + 1 := ⟨k - 1, by omega⟩
        unfold Tell mayF isF
        rw [reject_May.f, if_neg k1, if_neg k2, if_pos k3, nA, Option.bind_some, if_neg c]
        simp only [watersmeetref07_Is.f]
        simp only [if_neg k1, if_neg k2, if_pos k3, sure_f p.f3 hn (show 64 ≤ k by omega), Option.bind_some, if_neg c]
        refine ⟨?_, ?_, ?_, ?_⟩ <;> first | trivial | rfl
    by_cases k4 : p.f0 = 4
    · refine ⟨ts.foldl andV (false, false, true), K + p.f5.length + 80, fun k hk => ?_⟩
      obtain ⟨k, rfl⟩ : ∃ m, k = m + 2 := ⟨k - 2, by omega⟩
      have hl := and_loop (n := (n : Int)) hlen ht hT p.f5.length 0 k (false, false, true) (by omega) (by omega) (by omega)
      simp only [List.drop_zero, Int.natCast_zero] at hl
      have h0 := many2 (t := 0) hlen ht hT (by omega) (k := k + 1) (by omega)
      have h1 := many2 (t := 1) hlen ht hT (by omega) (k := k + 1) (by omega)
      have h2 := many2 (t := 2) hlen ht hT (by omega) (k := k + 1) (by omega)
      unfold Tell mayF isF
      rw [reject_May.f, if_neg k1, if_neg k2, if_neg k3, if_pos k4, reject_May.j0, if_pos (by simp [k4]), only_f 2 (by omega), Option.bind_some, if_neg (by omega)]
      simp only [watersmeetref07_Is.f]
      simp only [if_neg k1, if_neg k2, if_neg k3, if_pos k4, h0, h1, h2, Option.bind_some]
      exact ⟨hl, rfl, rfl, rfl⟩
    by_cases k5 : p.f0 = 5
    · refine ⟨ts.foldl orV (true, false, false), K + p.f5.length + 80, fun k hk => ?_⟩
      obtain ⟨k, rfl⟩ : ∃ m, k = m + 2 := ⟨k - 2, by omega⟩
      have hl := or_loop (n := (n : Int)) hlen ht hT p.f5.length 0 k (true, false, false) (by omega) (by omega) (by omega)
      simp only [List.drop_zero, Int.natCast_zero] at hl
      have h0 := many0 (t := 0) hlen ht hT (by omega) (k := k + 1) (by omega)
      have h1 := many0 (t := 1) hlen ht hT (by omega) (k := k + 1) (by omega)
      have h2 := many0 (t := 2) hlen ht hT (by omega) (k := k + 1) (by omega)
      unfold Tell mayF isF
      rw [reject_May.f, if_neg k1, if_neg k2, if_neg k3, if_neg k4, reject_May.j0, if_pos (by simp [k5]), only_f 2 (by omega), Option.bind_some, if_pos k5, only_f 0 (by omega), Option.bind_some]
      simp only [watersmeetref07_Is.f]
      simp only [if_neg k1, if_neg k2, if_neg k3, if_neg k4, if_pos k5, h0, h1, h2, Option.bind_some]
      exact ⟨hl, rfl, rfl, rfl⟩
    by_cases k6 : p.f0 = 6
    · by_cases hz : (p.f5.length : Int) > 0
      · have hlt : 0 < p.f5.length := by omega
        refine ⟨((ts[0]'(by omega)).2.2, (ts[0]'(by omega)).2.1, (ts[0]'(by omega)).1), K + 80, fun k hk => ?_⟩
        obtain ⟨k, rfl⟩ : ∃ m, k = m + 2 := ⟨k - 2, by omega⟩
        obtain ⟨a0, _⟩ := hT k (by omega) 0 hlt
        obtain ⟨_, a1, a2, a3⟩ := hT (k + 1) (by omega) 0 hlt
        unfold mayF at a0
        unfold isF at a1 a2 a3
        have w0 : wrap64 (2 - 0) = 2 := by decide +kernel
        have w1 : wrap64 (2 - 1) = 1 := by decide +kernel
        have w2 : wrap64 (2 - 2) = 0 := by decide +kernel
        have r0 := rdP hlt
        rw [Int.natCast_zero] at r0
        have hI : ∀ t, isF (k + 2) p n t = watersmeetref07_Is.f (k + 1) p.f5[0].f0 p.f5[0].f1 p.f5[0].f2 p.f5[0].f3.f0 p.f5[0].f3.f1 p.f5[0].f3.f2 p.f5[0].f3.f3.f0 p.f5[0].f3.f3.f1 p.f5[0].f4.f0 p.f5[0].f4.f1 p.f5[0].f4.f2 p.f5[0].f4.f3.f0 p.f5[0].f4.f3.f1 p.f5[0].f5 n (wrap64 (2 - t)) := by
          intro t
          unfold isF
          rw [watersmeetref07_Is.f, if_neg k1, if_neg k2, if_neg k3, if_neg k4, if_neg k5, if_pos k6, if_pos hz, if_pos (by omega), r0]
          cases watersmeetref07_Is.f (k + 1) p.f5[0].f0 p.f5[0].f1 p.f5[0].f2 p.f5[0].f3.f0 p.f5[0].f3.f1 p.f5[0].f3.f2 p.f5[0].f3.f3.f0 p.f5[0].f3.f3.f1 p.f5[0].f4.f0 p.f5[0].f4.f1 p.f5[0].f4.f2 p.f5[0].f4.f3.f0 p.f5[0].f4.f3.f1 p.f5[0].f5 (n : Int) (wrap64 (2 - t)) <;> rfl
        refine ⟨?_, by rw [hI, w0]; exact a3, by rw [hI, w1]; exact a2, by rw [hI, w2]; exact a1⟩
        unfold mayF
        rw [reject_May.f, if_neg k1, if_neg k2, if_neg k3, if_neg k4, reject_May.j0, if_neg (by simpa using k5), if_pos k6, if_pos hz, if_pos (by omega), r0, a0, Option.bind_some]
      · refine ⟨trip 1, 80, fun k hk => ?_⟩
        obtain ⟨k, rfl⟩ : ∃ m, k = m + 2 := ⟨k - 2, by omega⟩
        unfold Tell mayF isF
        rw [reject_May.f, if_neg k1, if_neg k2, if_neg k3, if_neg k4, reject_May.j0, if_neg (by simpa using k5), if_pos k6, if_neg hz, trip_eta k (by omega)]
        simp only [watersmeetref07_Is.f]
        simp only [if_neg k1, if_neg k2, if_neg k3, if_neg k4, if_neg k5, if_pos k6, if_neg hz]
        refine ⟨?_, ?_, ?_, ?_⟩ <;> first | trivial | rfl
    · refine ⟨trip 1, 80, fun k hk => ?_⟩
      obtain ⟨k, rfl⟩ : ∃ m, k = m + 2 := ⟨k - 2, by omega⟩
      unfold Tell mayF isF
      rw [reject_May.f, if_neg k1, if_neg k2, if_neg k3, if_neg k4, reject_May.j0, if_neg (by simpa using k5), if_neg k6, trip_eta k (by omega)]
      simp only [watersmeetref07_Is.f]
      simp only [if_neg k1, if_neg k2, if_neg k3, if_neg k4, if_neg k5, if_neg k6]
      refine ⟨?_, ?_, ?_, ?_⟩ <;> first | trivial | rfl
theorem goods {n : Nat} (hn : n < 18446744073709551616) (m : Nat) (l : List SP) (h : ∀ x ∈ l, Bn m x) : ∃ (ts : List T3) (K : Nat), ∃ (ht : ts.length = l.length), ∀ k, K ≤ k → ∀ i (h : i < l.length), Tell k (n : Int) l[i] (ts[i]'(by omega)) :=
  list_good l (fun x hx => good hn m x (h x hx))
theorem rejects_f {n : Nat} (hn : n < 18446744073709551616) {l : List SP} (hlen : l.length ≤ 9223372036854775807) {ts : List T3} {K : Nat} (ht : ts.length = l.length) (hT : ∀ k, K ≤ k → ∀ i (h : i < l.length), Tell k (n : Int) l[i] (ts[i]'(by omega))) {k : Nat} (hk : K + l.length + 16 < k) :
    reject_Rejects.f k l (n : Int) = some (!(ts.foldl andV (false, false, true)).2.2) ∧ watersmeetref07_Rejects.f k l (n : Int) = some (!(ts.foldl andV (false, false, true)).2.2) := by
  obtain ⟨k, rfl⟩ : ∃ m, k = m + 2 := ⟨k - 2, by omega⟩
  have hl := and_loop (n := (n : Int)) hlen ht hT l.length 0 k (false, false, true) (by omega) (by omega) (by omega)
  simp only [List.drop_zero, Int.natCast_zero] at hl
  constructor
  · unfold reject_Rejects.f
    rw [reject_May.f, if_neg (by omega), if_neg (by omega), if_neg (by omega), if_pos rfl, reject_May.j0, if_pos (show ((4 : Int) == 4) = true from rfl), only_f 2 (by omega), Option.bind_some, if_neg (by omega)]
    have e : reject_May.l101 k (n : Int) l (l.length : Int) 0 (trip (clamp 2)).1 (trip (clamp 2)).2.1 (trip (clamp 2)).2.2 = some (ts.foldl andV (false, false, true)) := hl
    rw [e]; rfl
  · unfold watersmeetref07_Rejects.f
    rw [many2 (t := 2) hlen ht hT (by omega) (by omega)]; rfl
def sizeF (k : Nat) (p : SP) (most : Int) := watersmeetref06_Size.f k p.f0 p.f1 p.f2 p.f3.f0 p.f3.f1 p.f3.f2 p.f3.f3.f0 p.f3.f3.f1 p.f4.f0 p.f4.f1 p.f4.f2 p.f4.f3.f0 p.f4.f3.f1 p.f5 most
theorem list_size : ∀ (l : List SP), (∀ x ∈ l, ∃ K, ∀ k, K ≤ k → ∀ most, ∃ r, sizeF k x most = some r) → ∃ K, ∀ k, K ≤ k → ∀ i (h : i < l.length), ∀ most, ∃ r, sizeF k l[i] most = some r
  | [], _ => ⟨0, fun k _ i h => absurd h (by simp)⟩
  | x :: l, h => by
    obtain ⟨K1, h1⟩ := h x (by simp)
    obtain ⟨K2, h2⟩ := list_size l (fun y hy => h y (by simp [hy]))
    refine ⟨K1 + K2, fun k hk i hi => ?_⟩
    cases i with
    | zero => exact h1 k (by omega)
    | succ i => exact h2 k (by omega) i (by simpa using hi)
theorem size_some : ∀ (m : Nat) (p : SP), Bn m p → ∃ K, ∀ k, K ≤ k → ∀ most, ∃ r, sizeF k p most = some r := by
  intro m
  induction m with
  | zero => intro p h; exact h.elim
  | succ m ih =>
    intro p hp
    obtain ⟨hlen, hx⟩ := bn_succ hp
    obtain ⟨K, hK⟩ := list_size p.f5 (fun x hx' => ih x (hx x hx'))
    have hloop : ∀ (d i k : Nat) (most a : Int), i ≤ p.f5.length → p.f5.length - i = d → K + d < k → ∃ r, watersmeetref06_Size.l0 k most a (i : Int) p.f0 p.f1 p.f2 p.f3.f0 p.f3.f1 p.f3.f2 p.f3.f3.f0 p.f3.f3.f1 p.f4.f0 p.f4.f1 p.f4.f2 p.f4.f3.f0 p.f4.f3.f1 p.f5 = some r := by
      intro d
      induction d with
      | zero =>
        intro i k most a hi hd hk
        obtain ⟨k, rfl⟩ : ∃ m, k = m + 1 := ⟨k - 1, by omega⟩
        rw [watersmeetref06_Size.l0, if_neg (by omega)]; exact ⟨_, rfl⟩
      | succ d ihd =>
        intro i k most a hi hd hk
        obtain ⟨k, rfl⟩ : ∃ m, k = m + 1 := ⟨k - 1, by omega⟩
        have hlt : i < p.f5.length := by omega
        rw [watersmeetref06_Size.l0, if_pos (by omega)]
        split
        · rw [if_pos (by omega), rdP hlt]
          obtain ⟨r, hr⟩ := hK k (by omega) i hlt (wrap64 (most - a))
          unfold sizeF at hr
          rw [hr, Option.bind_some, wrap_succ (by omega)]
          exact ihd (i + 1) k _ _ (by omega) (by omega) (by omega)
        · exact ⟨_, rfl⟩
    refine ⟨K + p.f5.length + 5, fun k hk most => ?_⟩
    obtain ⟨k, rfl⟩ : ∃ m, k = m + 1 := ⟨k - 1, by omega⟩
    unfold sizeF
    rw [watersmeetref06_Size.f]
    exact hloop p.f5.length 0 k most 1 (by omega) (by omega) (by omega)
theorem few_some (m : Nat) (l : List SP) (hlen : l.length ≤ 9223372036854775807) (h : ∀ x ∈ l, Bn m x) : ∃ K b, ∀ k, K ≤ k → watersmeetlaw07_few.f k l = some b := by
  obtain ⟨K, hK⟩ := list_size l (fun x hx => size_some m x (h x hx))
  have hloop : ∀ (d i k : Nat) (a : Int), i ≤ l.length → l.length - i = d → K + d < k → ∃ r, watersmeetlaw07_few.l0 k l a (i : Int) = some r := by
    intro d
    induction d with
    | zero =>
      intro i k a hi hd hk
      obtain ⟨k, rfl⟩ : ∃ m, k = m + 1 := ⟨k - 1, by omega⟩
      rw [watersmeetlaw07_few.l0, if_neg (by omega)]
      split <;> exact ⟨_, rfl⟩
    | succ d ihd =>
      intro i k a hi hd hk
      obtain ⟨k, rfl⟩ : ∃ m, k = m + 1 := ⟨k - 1, by omega⟩
      have hlt : i < l.length := by omega
      rw [watersmeetlaw07_few.l0, if_pos (by omega)]
      split
      · rw [if_pos (by omega), rdP hlt]
        obtain ⟨r, hr⟩ := hK k (by omega) i hlt 200
        unfold sizeF at hr
        rw [hr, Option.bind_some, wrap_succ (by omega)]
        exact ihd (i + 1) k _ (by omega) (by omega) (by omega)
      · split <;> exact ⟨_, rfl⟩
  obtain ⟨r, hr⟩ := hloop l.length 0 (K + l.length + 1) 0 (by omega) (by omega) (by omega)
  refine ⟨K + l.length + 1, r, fun k hk => ?_⟩
  unfold watersmeetlaw07_few.f
  induction hk with
  | refl => exact hr
  | step _ ih => exact watersmeetlaw07_few.mono _ _ _ ih
theorem awake_ev : ∃ K, ∀ k, K ≤ k → watersmeetlaw07_awake.f k = some true := by
  refine ⟨70, fun k hk => ?_⟩
  induction hk with
  | refl => decide +kernel
  | step _ ih => exact watersmeetlaw07_awake.mono _ _ ih
end Go.Proofs.Ytigkkfhpnfjmhaa.RejGoodRejT
