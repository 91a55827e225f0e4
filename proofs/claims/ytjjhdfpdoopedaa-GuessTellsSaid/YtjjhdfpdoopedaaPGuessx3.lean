/- Laid by a program of this session over the printer of the kit: contracts of functions of the given program, and rows of laws. Lean checks it. -/
import Derived.Test.YtjjhdfpdoopedaaPGuessx0
import Derived.Test.YtjjhdfpdoopedaaPGuessx2
namespace Go.Proofs.Ytjjhdfpdoopedaa.PGuess
open Go.RowKit Go.Proofs.YtjjhdfpdoopedaaW.PrintWords Go.Proofs.YtjjhdfpdoopedaaW.PrintLast Go.Proofs.YtjjhdfpdoopedaaW.PrintMore
attribute [local go_sem] max2_int min2_int max_two min_two max_three min_three max_four min_four   -- for this text's walks alone
set_option linter.unusedVariables false
set_option linter.unusedSimpArgs false

/-! ### watersmeetref01_In: function 34 -/
def watersmeetref01_In.l0 : Nat → Int → Int → Int → Option (Bool)
  | 0, _, _, _ => none
  | k + 1, x0, x1, x5 => if x5 < 64 then ((watersmeetref01_Has.f k x0 x5).bind fun t153 => (if t153 = true then ((watersmeetref01_Has.f k x1 x5).bind fun t154 => (if t154 = true then (watersmeetref01_In.l0 k x0 x1 (wrap64 (x5 + 1))) else (some false))) else (watersmeetref01_In.l0 k x0 x1 (wrap64 (x5 + 1))))) else (some true)
def watersmeetref01_In.f (k : Nat) (a0 : Int) (a1 : Int) : Option (Bool) := watersmeetref01_In.l0 k a0 a1 0
theorem watersmeetref01_In.mono_l : ∀ k, (∀ y0 y1 y2, LeO (watersmeetref01_In.l0 k y0 y1 y2) (watersmeetref01_In.l0 (k + 1) y0 y1 y2))
  | 0 => fun _ _ _ r h => by simp [watersmeetref01_In.l0] at h
  | k + 1 => by
    have ih0 := watersmeetref01_In.mono_l k
    · intro y0 y1 y2
      unfold watersmeetref01_In.l0
      repeat' first
      | (with_reducible exact ih0 _ _ _)
      | (with_reducible exact watersmeetref01_Has.mono _ _ _)
      | (with_reducible exact LeO.refl _)
      | (with_reducible exact LeO.none _)
      | (with_reducible refine LeO.ite ?_ ?_)
      | (with_reducible refine LeO.bind ?_ (fun _ => ?_))
      | exact ih0 _ _ _
      | exact watersmeetref01_Has.mono _ _ _
      | exact LeO.none _
      | refine LeO.ite ?_ ?_
      | refine LeO.bind ?_ (fun _ => ?_)
theorem watersmeetref01_In.mono : ∀ a0 a1 k, LeO (watersmeetref01_In.f k a0 a1) (watersmeetref01_In.f (k + 1) a0 a1) := by
  intro a0 a1 k
  have ih0 := watersmeetref01_In.mono_l k
  unfold watersmeetref01_In.f
  repeat' first
      | (with_reducible exact ih0 _ _ _)
      | (with_reducible exact watersmeetref01_Has.mono _ _ _)
      | (with_reducible exact LeO.refl _)
      | (with_reducible exact LeO.none _)
      | (with_reducible refine LeO.ite ?_ ?_)
      | (with_reducible refine LeO.bind ?_ (fun _ => ?_))
      | exact ih0 _ _ _
      | exact watersmeetref01_Has.mono _ _ _
      | exact LeO.none _
      | refine LeO.ite ?_ ?_
      | refine LeO.bind ?_ (fun _ => ?_)
set_option maxHeartbeats 8000000 in
set_option maxRecDepth 100000 in
theorem watersmeetref01_In.calls (k : Nat) (a0 : Int) (a1 : Int) (r : Bool) (w : World) (h : watersmeetref01_In.f k a0 a1 = some r) :
    Calls Try.prog 34 #[.int .u64 a0, .int .u64 a1] w fun e w' => e = .returned (.bool r) ∧ Drawn0 w w' := by
  have H : (watersmeetref01_In.l0 k a0 a1 0) = some r := h
  clear h
  have H' := Aside0.mk H
  clear H
  go_enter Try.func34, Try.ntmps34
  go_wp2
  go_loopg [5] k (fun kq v5 w' => ∃ (x5_1 : Int), v5 = .int .i64 x5_1 ∧ Aside0 (watersmeetref01_In.l0 kq a0 a1 x5_1 = some r) ∧ Aside0 (kq ≤ k) ∧ Drawn0 w w')
  case atStart => exact ⟨(0), (by first | rfl | (simp; done) | (simp [*]; done)), H', ⟨Nat.le_refl _⟩, by repeat (first | exact Drawn0.refl _ | apply Drawn0.step)⟩
  case round =>
    clear H'
    try clear p2
    obtain ⟨x5_1, rfl, HA, HK1, ⟨m1, rfl⟩⟩ := hrel
    cases gk with
    | zero => exact absurd HA.out (by simp [watersmeetref01_In.l0])
    | succ k1 =>
      have H := HA.out
      clear HA
      simp only [watersmeetref01_In.l0] at H
      by_cases c3 : x5_1 < 64
      · rw [if_pos c3] at H
        have c3b0 : decide (x5_1 < 64) = true := decide_eq_true c3
        clear c3
        replace H := Option.bind_eq_some_iff.mp H
        obtain ⟨t153, A40, H⟩ := H
        replace H : (if t153 = true then ((watersmeetref01_Has.f k1 a1 x5_1).bind fun t154 => (if t154 = true then (watersmeetref01_In.l0 k1 a0 a1 (wrap64 (x5_1 + 1))) else (some false))) else (watersmeetref01_In.l0 k1 a0 a1 (wrap64 (x5_1 + 1)))) = some r := H
        have A4 := Aside0.mk A40
        clear A40
        by_cases c5 : t153 = true
        · subst c5
          have H1 : ((watersmeetref01_Has.f k1 a1 x5_1).bind fun t154 => (if t154 = true then (watersmeetref01_In.l0 k1 a0 a1 (wrap64 (x5_1 + 1))) else (some false))) = some r := by rw [if_pos rfl] at H; exact H
          clear H
          have H := H1
          clear H1
          replace H := Option.bind_eq_some_iff.mp H
          obtain ⟨t154, A60, H⟩ := H
          replace H : (if t154 = true then (watersmeetref01_In.l0 k1 a0 a1 (wrap64 (x5_1 + 1))) else (some false)) = some r := H
          have A6 := Aside0.mk A60
          clear A60
          by_cases c7 : t154 = true
          · subst c7
            have H1 : (watersmeetref01_In.l0 k1 a0 a1 (wrap64 (x5_1 + 1))) = some r := by rw [if_pos rfl] at H; exact H
            clear H
            have H := H1
            clear H1
            have H' := Aside0.mk H
            clear H
            go_wp2_with (first | ((with_reducible refine gate_callee (f := 33) rfl ?_); refine goesL_ (some 12) rfl rfl Try.func33 (by kernel_rfl) rfl #[.int .u64 a0, .int .i64 x5_1] rfl (by (try simp only [List.map_toArray, List.map_cons, List.map_nil]); first | done | rfl | (simp only [List.length_drop, List.length_take]; rfl)) ?_; (with_reducible refine (watersmeetref01_Has.calls k1 a0 x5_1 true _ A4.out).mono ?_); rintro e w' ⟨rfl, ⟨nd, rfl⟩⟩; refine ⟨_, rfl, ?_⟩) | (go_at_call 33; (with_reducible refine (watersmeetref01_Has.calls k1 a1 x5_1 true _ A6.out).mono ?_); rintro e w' ⟨rfl, ⟨nd, rfl⟩⟩))
            go_roundg k1
            case measure => have := HK1.out; omega
            case rel => exact ⟨(wrap64 (x5_1 + 1)), (by first | rfl | (simp; done) | (simp [*]; done)), H', ⟨by have := HK1.out; omega⟩, by repeat (first | exact Drawn0.refl _ | apply Drawn0.step)⟩
          · replace c7 := Bool.eq_false_iff.mpr c7
            subst c7
            have H1 : (some false) = some r := by rw [if_neg (show ¬ (false = true) by decide)] at H; exact H
            clear H
            have H := H1
            clear H1
            obtain rfl := Option.some.inj H
            go_wp2_with (first | ((with_reducible refine gate_callee (f := 33) rfl ?_); refine goesL_ (some 12) rfl rfl Try.func33 (by kernel_rfl) rfl #[.int .u64 a0, .int .i64 x5_1] rfl (by (try simp only [List.map_toArray, List.map_cons, List.map_nil]); first | done | rfl | (simp only [List.length_drop, List.length_take]; rfl)) ?_; (with_reducible refine (watersmeetref01_Has.calls k1 a0 x5_1 true _ A4.out).mono ?_); rintro e w' ⟨rfl, ⟨nd, rfl⟩⟩; refine ⟨_, rfl, ?_⟩) | (go_at_call 33; (with_reducible refine (watersmeetref01_Has.calls k1 a1 x5_1 false _ A6.out).mono ?_); rintro e w' ⟨rfl, ⟨nd, rfl⟩⟩))
            go_ret
            exact ⟨by first | rfl | (simp; done) | (simp [*]; done), by repeat (first | exact Drawn0.refl _ | apply Drawn0.step)⟩
        · replace c5 := Bool.eq_false_iff.mpr c5
          subst c5
          have H1 : (watersmeetref01_In.l0 k1 a0 a1 (wrap64 (x5_1 + 1))) = some r := by rw [if_neg (show ¬ (false = true) by decide)] at H; exact H
          clear H
          have H := H1
          clear H1
          have H' := Aside0.mk H
          clear H
          go_wp2_with (first | ((with_reducible refine gate_callee (f := 33) rfl ?_); refine goesL_ (some 12) rfl rfl Try.func33 (by kernel_rfl) rfl #[.int .u64 a0, .int .i64 x5_1] rfl (by (try simp only [List.map_toArray, List.map_cons, List.map_nil]); first | done | rfl | (simp only [List.length_drop, List.length_take]; rfl)) ?_; (with_reducible refine (watersmeetref01_Has.calls k1 a0 x5_1 false _ A4.out).mono ?_); rintro e w' ⟨rfl, ⟨nd, rfl⟩⟩; refine ⟨_, rfl, ?_⟩))
          go_roundg k1
          case measure => have := HK1.out; omega
          case rel => exact ⟨(wrap64 (x5_1 + 1)), (by first | rfl | (simp; done) | (simp [*]; done)), H', ⟨by have := HK1.out; omega⟩, by repeat (first | exact Drawn0.refl _ | apply Drawn0.step)⟩
      · rw [if_neg c3] at H
        have c3b0 : decide (x5_1 < 64) = false := decide_eq_false c3
        clear c3
        obtain rfl := Option.some.inj H
        go_wp2
        go_ret
        exact ⟨by first | rfl | (simp; done) | (simp [*]; done), by repeat (first | exact Drawn0.refl _ | apply Drawn0.step)⟩

/-! ### watersmeetref27_hidden: function 47 -/
def watersmeetref27_hidden.l0 : Nat → List (S57) → Int → Int → Option (Bool)
  | 0, _, _, _ => none
  | k + 1, x0, x1, x5 => if x5 < (x0.length : Int) then (if 0 ≤ x5 then (if ((rd_T57 x0 x5).f0) = 3 then ((watersmeetref01_Has.f k ((rd_T57 x0 x5).f4) x1).bind fun t157 => (if t157 = true then (some true) else (watersmeetref27_hidden.l0 k x0 x1 (wrap64 (x5 + 1))))) else (if ((rd_T57 x0 x5).f0) = 4 then ((watersmeetref01_Has.f k ((rd_T57 x0 x5).f4) x1).bind fun t160 => (if t160 = true then (some true) else (watersmeetref27_hidden.l0 k x0 x1 (wrap64 (x5 + 1))))) else (watersmeetref27_hidden.l0 k x0 x1 (wrap64 (x5 + 1))))) else (none)) else (some false)
def watersmeetref27_hidden.f (k : Nat) (l0 : List (S57)) (a1 : Int) : Option (Bool) := watersmeetref27_hidden.l0 k l0 a1 0
theorem watersmeetref27_hidden.mono_l : ∀ k, (∀ y0 y1 y2, LeO (watersmeetref27_hidden.l0 k y0 y1 y2) (watersmeetref27_hidden.l0 (k + 1) y0 y1 y2))
  | 0 => fun _ _ _ r h => by simp [watersmeetref27_hidden.l0] at h
  | k + 1 => by
    have ih0 := watersmeetref27_hidden.mono_l k
    · intro y0 y1 y2
      unfold watersmeetref27_hidden.l0
      repeat' first
      | (with_reducible exact ih0 _ _ _)
      | (with_reducible exact watersmeetref01_Has.mono _ _ _)
      | (with_reducible exact LeO.refl _)
      | (with_reducible exact LeO.none _)
      | (with_reducible refine LeO.ite ?_ ?_)
      | (with_reducible refine LeO.bind ?_ (fun _ => ?_))
      | exact ih0 _ _ _
      | exact watersmeetref01_Has.mono _ _ _
      | exact LeO.none _
      | refine LeO.ite ?_ ?_
      | refine LeO.bind ?_ (fun _ => ?_)
theorem watersmeetref27_hidden.mono : ∀ a0 a1 k, LeO (watersmeetref27_hidden.f k a0 a1) (watersmeetref27_hidden.f (k + 1) a0 a1) := by
  intro a0 a1 k
  have ih0 := watersmeetref27_hidden.mono_l k
  unfold watersmeetref27_hidden.f
  repeat' first
      | (with_reducible exact ih0 _ _ _)
      | (with_reducible exact watersmeetref01_Has.mono _ _ _)
      | (with_reducible exact LeO.refl _)
      | (with_reducible exact LeO.none _)
      | (with_reducible refine LeO.ite ?_ ?_)
      | (with_reducible refine LeO.bind ?_ (fun _ => ?_))
      | exact ih0 _ _ _
      | exact watersmeetref01_Has.mono _ _ _
      | exact LeO.none _
      | refine LeO.ite ?_ ?_
      | refine LeO.bind ?_ (fun _ => ?_)
set_option maxHeartbeats 8000000 in
set_option maxRecDepth 100000 in
theorem watersmeetref27_hidden.calls (k : Nat) (A0 : Option Addr) (c0 : Nat) (l0 : List (S57)) (a1 : Int) (r : Bool) (w : World) (hr0 : Kd.C k57 w A0 l0.length l0) (hc0 : l0.length ≤ c0) (h : watersmeetref27_hidden.f k l0 a1 = some r) :
    Calls Try.prog 47 #[.slice A0 l0.length c0, .int .i64 a1] w fun e w' => e = .returned (.bool r) ∧ Drawn0 w w' := by
  have HR0 := Aside0.mk hr0
  have HC0 := Aside0.mk hc0
  clear hr0 hc0
  have H : (watersmeetref27_hidden.l0 k l0 a1 0) = some r := h
  clear h
  have H' := Aside0.mk H
  clear H
  go_enter Try.func47, Try.ntmps47
  go_wp2
  go_loopg [5] k (fun kq v5 w' => ∃ (x5_1 : Int), v5 = .int .i64 x5_1 ∧ Aside0 (watersmeetref27_hidden.l0 kq l0 a1 x5_1 = some r) ∧ Aside0 (kq ≤ k) ∧ Drawn0 w w')
  case atStart => exact ⟨(0), (by first | rfl | (simp; done) | (simp [*]; done)), H', ⟨Nat.le_refl _⟩, by repeat (first | exact Drawn0.refl _ | apply Drawn0.step)⟩
  case round =>
    clear H'
    try clear p2
    obtain ⟨x5_1, rfl, HA, HK1, ⟨m1, rfl⟩⟩ := hrel
    cases gk with
    | zero => exact absurd HA.out (by simp [watersmeetref27_hidden.l0])
    | succ k1 =>
      have H := HA.out
      clear HA
      simp only [watersmeetref27_hidden.l0] at H
      by_cases c3 : x5_1 < (l0.length : Int)
      · rw [if_pos c3] at H
        have c3b0 : decide (x5_1 < (l0.length : Int)) = true := decide_eq_true c3
        clear c3
        by_cases c4 : 0 ≤ x5_1
        · rw [if_pos c4] at H
          have c4b0 : decide (0 ≤ x5_1) = true := decide_eq_true c4
          clear c4
          by_cases c5 : ((rd_T57 l0 x5_1).f0) = 3
          · rw [if_pos c5] at H
            have c5b0 : (((rd_T57 l0 x5_1).f0) == 3) = true := beq_iff_eq.mpr c5
            have c5b1 : (((rd_T57 l0 x5_1).f0) != 3) = false := bne_eq_false_iff_eq.mpr c5
            clear c5
            replace H := Option.bind_eq_some_iff.mp H
            obtain ⟨t157, A60, H⟩ := H
            replace H : (if t157 = true then (some true) else (watersmeetref27_hidden.l0 k1 l0 a1 (wrap64 (x5_1 + 1)))) = some r := H
            have A6 := Aside0.mk A60
            clear A60
            by_cases c7 : t157 = true
            · subst c7
              have H1 : (some true) = some r := by rw [if_pos rfl] at H; exact H
              clear H
              have H := H1
              clear H1
              obtain rfl := Option.some.inj H
              have p155 : 0 ≤ (x5_1 : Int) := of_decide_eq_true (by first | (with_reducible assumption) | assumption)
              have q155 : x5_1 < (l0.length : Int) := of_decide_eq_true (by first | (with_reducible assumption) | assumption)
              obtain ⟨ad155, A155_1, c155_1, e155, hx155_0, hx155_1, hx155_2, hx155_3, hx155_4, hl155_1, hi155_1⟩ := at_T57 HR0.out x5_1 p155 q155
              cases e155
              have HR155_1 := Aside0.mk hi155_1
              have HC155_1 := Aside0.mk hl155_1
              clear hi155_1 hl155_1
              replace p155 := eq_true p155
              replace q155 := eq_true q155
              have p156 : 0 ≤ (x5_1 : Int) := of_decide_eq_true (by first | (with_reducible assumption) | assumption)
              have q156 : x5_1 < (l0.length : Int) := of_decide_eq_true (by first | (with_reducible assumption) | assumption)
              obtain ⟨ad156, A156_1, c156_1, e156, hx156_0, hx156_1, hx156_2, hx156_3, hx156_4, hl156_1, hi156_1⟩ := at_T57 HR0.out x5_1 p156 q156
              obtain rfl : ad155 = ad156 := (by injection e156)
              have HR156_1 := Aside0.mk hi156_1
              have HC156_1 := Aside0.mk hl156_1
              clear hi156_1 hl156_1
              replace p156 := eq_true p156
              replace q156 := eq_true q156
              have ea_ := Option.some.inj (hx155_1.symm.trans hx156_1)
              injection ea_ with ea_ en_ ec_
              subst ea_
              subst ec_
              clear en_
              go_wp2_with (first | (go_at_call 33; (with_reducible refine (watersmeetref01_Has.calls k1 ((rd_T57 l0 x5_1).f4) a1 true _ A6.out).mono ?_); rintro e w' ⟨rfl, ⟨nd, rfl⟩⟩))
              go_ret
              exact ⟨by first | rfl | (simp; done) | (simp [*]; done), by repeat (first | exact Drawn0.refl _ | apply Drawn0.step)⟩
            · replace c7 := Bool.eq_false_iff.mpr c7
              subst c7
              have H1 : (watersmeetref27_hidden.l0 k1 l0 a1 (wrap64 (x5_1 + 1))) = some r := by rw [if_neg (show ¬ (false = true) by decide)] at H; exact H
              clear H
              have H := H1
              clear H1
              have H' := Aside0.mk H
              clear H
              have p155 : 0 ≤ (x5_1 : Int) := of_decide_eq_true (by first | (with_reducible assumption) | assumption)
              have q155 : x5_1 < (l0.length : Int) := of_decide_eq_true (by first | (with_reducible assumption) | assumption)
              obtain ⟨ad155, A155_1, c155_1, e155, hx155_0, hx155_1, hx155_2, hx155_3, hx155_4, hl155_1, hi155_1⟩ := at_T57 HR0.out x5_1 p155 q155
              cases e155
              have HR155_1 := Aside0.mk hi155_1
              have HC155_1 := Aside0.mk hl155_1
              clear hi155_1 hl155_1
              replace p155 := eq_true p155
              replace q155 := eq_true q155
              have p156 : 0 ≤ (x5_1 : Int) := of_decide_eq_true (by first | (with_reducible assumption) | assumption)
              have q156 : x5_1 < (l0.length : Int) := of_decide_eq_true (by first | (with_reducible assumption) | assumption)
              obtain ⟨ad156, A156_1, c156_1, e156, hx156_0, hx156_1, hx156_2, hx156_3, hx156_4, hl156_1, hi156_1⟩ := at_T57 HR0.out x5_1 p156 q156
              obtain rfl : ad155 = ad156 := (by injection e156)
              have HR156_1 := Aside0.mk hi156_1
              have HC156_1 := Aside0.mk hl156_1
              clear hi156_1 hl156_1
              replace p156 := eq_true p156
              replace q156 := eq_true q156
              have ea_ := Option.some.inj (hx155_1.symm.trans hx156_1)
              injection ea_ with ea_ en_ ec_
              subst ea_
              subst ec_
              clear en_
              go_wp2_with (first | (go_at_call 33; (with_reducible refine (watersmeetref01_Has.calls k1 ((rd_T57 l0 x5_1).f4) a1 false _ A6.out).mono ?_); rintro e w' ⟨rfl, ⟨nd, rfl⟩⟩))
              go_roundg k1
              case measure => have := HK1.out; omega
              case rel => exact ⟨(wrap64 (x5_1 + 1)), (by first | rfl | (simp; done) | (simp [*]; done)), H', ⟨by have := HK1.out; omega⟩, by repeat (first | exact Drawn0.refl _ | apply Drawn0.step)⟩
          · rw [if_neg c5] at H
            have c5b0 : (((rd_T57 l0 x5_1).f0) == 3) = false := beq_eq_false_iff_ne.mpr c5
            have c5b1 : (((rd_T57 l0 x5_1).f0) != 3) = true := bne_iff_ne.mpr c5
            by_cases c8 : ((rd_T57 l0 x5_1).f0) = 4
            · rw [if_pos c8] at H
              have c8b0 : (((rd_T57 l0 x5_1).f0) == 4) = true := beq_iff_eq.mpr c8
              have c8b1 : (((rd_T57 l0 x5_1).f0) != 4) = false := bne_eq_false_iff_eq.mpr c8
              clear c8
              replace H := Option.bind_eq_some_iff.mp H
              obtain ⟨t160, A90, H⟩ := H
              replace H : (if t160 = true then (some true) else (watersmeetref27_hidden.l0 k1 l0 a1 (wrap64 (x5_1 + 1)))) = some r := H
              have A9 := Aside0.mk A90
              clear A90
              by_cases c10 : t160 = true
              · subst c10
                have H1 : (some true) = some r := by rw [if_pos rfl] at H; exact H
                clear H
                have H := H1
                clear H1
                obtain rfl := Option.some.inj H
                have p155 : 0 ≤ (x5_1 : Int) := of_decide_eq_true (by first | (with_reducible assumption) | assumption)
                have q155 : x5_1 < (l0.length : Int) := of_decide_eq_true (by first | (with_reducible assumption) | assumption)
                obtain ⟨ad155, A155_1, c155_1, e155, hx155_0, hx155_1, hx155_2, hx155_3, hx155_4, hl155_1, hi155_1⟩ := at_T57 HR0.out x5_1 p155 q155
                cases e155
                have HR155_1 := Aside0.mk hi155_1
                have HC155_1 := Aside0.mk hl155_1
                clear hi155_1 hl155_1
                replace p155 := eq_true p155
                replace q155 := eq_true q155
                have p158 : 0 ≤ (x5_1 : Int) := of_decide_eq_true (by first | (with_reducible assumption) | assumption)
                have q158 : x5_1 < (l0.length : Int) := of_decide_eq_true (by first | (with_reducible assumption) | assumption)
                obtain ⟨ad158, A158_1, c158_1, e158, hx158_0, hx158_1, hx158_2, hx158_3, hx158_4, hl158_1, hi158_1⟩ := at_T57 HR0.out x5_1 p158 q158
                obtain rfl : ad155 = ad158 := (by injection e158)
                have HR158_1 := Aside0.mk hi158_1
                have HC158_1 := Aside0.mk hl158_1
                clear hi158_1 hl158_1
                replace p158 := eq_true p158
                replace q158 := eq_true q158
                have ea_ := Option.some.inj (hx155_1.symm.trans hx158_1)
                injection ea_ with ea_ en_ ec_
                subst ea_
                subst ec_
                clear en_
                have p159 : 0 ≤ (x5_1 : Int) := of_decide_eq_true (by first | (with_reducible assumption) | assumption)
                have q159 : x5_1 < (l0.length : Int) := of_decide_eq_true (by first | (with_reducible assumption) | assumption)
                obtain ⟨ad159, A159_1, c159_1, e159, hx159_0, hx159_1, hx159_2, hx159_3, hx159_4, hl159_1, hi159_1⟩ := at_T57 HR0.out x5_1 p159 q159
                obtain rfl : ad155 = ad159 := (by injection e159)
                have HR159_1 := Aside0.mk hi159_1
                have HC159_1 := Aside0.mk hl159_1
                clear hi159_1 hl159_1
                replace p159 := eq_true p159
                replace q159 := eq_true q159
                have ea_ := Option.some.inj (hx155_1.symm.trans hx159_1)
                injection ea_ with ea_ en_ ec_
                subst ea_
                subst ec_
                clear en_
                go_wp2_with (first | (go_at_call 33; (with_reducible refine (watersmeetref01_Has.calls k1 ((rd_T57 l0 x5_1).f4) a1 true _ A9.out).mono ?_); rintro e w' ⟨rfl, ⟨nd, rfl⟩⟩))
                go_ret
                exact ⟨by first | rfl | (simp; done) | (simp [*]; done), by repeat (first | exact Drawn0.refl _ | apply Drawn0.step)⟩
              · replace c10 := Bool.eq_false_iff.mpr c10
                subst c10
                have H1 : (watersmeetref27_hidden.l0 k1 l0 a1 (wrap64 (x5_1 + 1))) = some r := by rw [if_neg (show ¬ (false = true) by decide)] at H; exact H
                clear H
                have H := H1
                clear H1
                have H' := Aside0.mk H
                clear H
                have p155 : 0 ≤ (x5_1 : Int) := of_decide_eq_true (by first | (with_reducible assumption) | assumption)
                have q155 : x5_1 < (l0.length : Int) := of_decide_eq_true (by first | (with_reducible assumption) | assumption)
                obtain ⟨ad155, A155_1, c155_1, e155, hx155_0, hx155_1, hx155_2, hx155_3, hx155_4, hl155_1, hi155_1⟩ := at_T57 HR0.out x5_1 p155 q155
                cases e155
                have HR155_1 := Aside0.mk hi155_1
                have HC155_1 := Aside0.mk hl155_1
                clear hi155_1 hl155_1
                replace p155 := eq_true p155
                replace q155 := eq_true q155
                have p158 : 0 ≤ (x5_1 : Int) := of_decide_eq_true (by first | (with_reducible assumption) | assumption)
                have q158 : x5_1 < (l0.length : Int) := of_decide_eq_true (by first | (with_reducible assumption) | assumption)
                obtain ⟨ad158, A158_1, c158_1, e158, hx158_0, hx158_1, hx158_2, hx158_3, hx158_4, hl158_1, hi158_1⟩ := at_T57 HR0.out x5_1 p158 q158
                obtain rfl : ad155 = ad158 := (by injection e158)
                have HR158_1 := Aside0.mk hi158_1
                have HC158_1 := Aside0.mk hl158_1
                clear hi158_1 hl158_1
                replace p158 := eq_true p158
                replace q158 := eq_true q158
                have ea_ := Option.some.inj (hx155_1.symm.trans hx158_1)
                injection ea_ with ea_ en_ ec_
                subst ea_
                subst ec_
                clear en_
                have p159 : 0 ≤ (x5_1 : Int) := of_decide_eq_true (by first | (with_reducible assumption) | assumption)
                have q159 : x5_1 < (l0.length : Int) := of_decide_eq_true (by first | (with_reducible assumption) | assumption)
                obtain ⟨ad159, A159_1, c159_1, e159, hx159_0, hx159_1, hx159_2, hx159_3, hx159_4, hl159_1, hi159_1⟩ := at_T57 HR0.out x5_1 p159 q159
                obtain rfl : ad155 = ad159 := (by injection e159)
                have HR159_1 := Aside0.mk hi159_1
                have HC159_1 := Aside0.mk hl159_1
                clear hi159_1 hl159_1
                replace p159 := eq_true p159
                replace q159 := eq_true q159
                have ea_ := Option.some.inj (hx155_1.symm.trans hx159_1)
                injection ea_ with ea_ en_ ec_
                subst ea_
                subst ec_
                clear en_
                go_wp2_with (first | (go_at_call 33; (with_reducible refine (watersmeetref01_Has.calls k1 ((rd_T57 l0 x5_1).f4) a1 false _ A9.out).mono ?_); rintro e w' ⟨rfl, ⟨nd, rfl⟩⟩))
                go_roundg k1
                case measure => have := HK1.out; omega
                case rel => exact ⟨(wrap64 (x5_1 + 1)), (by first | rfl | (simp; done) | (simp [*]; done)), H', ⟨by have := HK1.out; omega⟩, by repeat (first | exact Drawn0.refl _ | apply Drawn0.step)⟩
            · rw [if_neg c8] at H
              have c8b0 : (((rd_T57 l0 x5_1).f0) == 4) = false := beq_eq_false_iff_ne.mpr c8
              have c8b1 : (((rd_T57 l0 x5_1).f0) != 4) = true := bne_iff_ne.mpr c8
              have H' := Aside0.mk H
              clear H
              have p155 : 0 ≤ (x5_1 : Int) := of_decide_eq_true (by first | (with_reducible assumption) | assumption)
              have q155 : x5_1 < (l0.length : Int) := of_decide_eq_true (by first | (with_reducible assumption) | assumption)
              obtain ⟨ad155, A155_1, c155_1, e155, hx155_0, hx155_1, hx155_2, hx155_3, hx155_4, hl155_1, hi155_1⟩ := at_T57 HR0.out x5_1 p155 q155
              cases e155
              have HR155_1 := Aside0.mk hi155_1
              have HC155_1 := Aside0.mk hl155_1
              clear hi155_1 hl155_1
              replace p155 := eq_true p155
              replace q155 := eq_true q155
              have p158 : 0 ≤ (x5_1 : Int) := of_decide_eq_true (by first | (with_reducible assumption) | assumption)
              have q158 : x5_1 < (l0.length : Int) := of_decide_eq_true (by first | (with_reducible assumption) | assumption)
              obtain ⟨ad158, A158_1, c158_1, e158, hx158_0, hx158_1, hx158_2, hx158_3, hx158_4, hl158_1, hi158_1⟩ := at_T57 HR0.out x5_1 p158 q158
              obtain rfl : ad155 = ad158 := (by injection e158)
              have HR158_1 := Aside0.mk hi158_1
              have HC158_1 := Aside0.mk hl158_1
              clear hi158_1 hl158_1
              replace p158 := eq_true p158
              replace q158 := eq_true q158
              have ea_ := Option.some.inj (hx155_1.symm.trans hx158_1)
              injection ea_ with ea_ en_ ec_
              subst ea_
              subst ec_
              clear en_
              go_wp2
              go_roundg k1
              case measure => have := HK1.out; omega
              case rel => exact ⟨(wrap64 (x5_1 + 1)), (by first | rfl | (simp; done) | (simp [*]; done)), H', ⟨by have := HK1.out; omega⟩, by repeat (first | exact Drawn0.refl _ | apply Drawn0.step)⟩
        · rw [if_neg c4] at H
          exact absurd H (by simp)
      · rw [if_neg c3] at H
        have c3b0 : decide (x5_1 < (l0.length : Int)) = false := decide_eq_false c3
        clear c3
        obtain rfl := Option.some.inj H
        go_wp2
        go_ret
        exact ⟨by first | rfl | (simp; done) | (simp [*]; done), by repeat (first | exact Drawn0.refl _ | apply Drawn0.step)⟩

end Go.Proofs.Ytjjhdfpdoopedaa.PGuess
