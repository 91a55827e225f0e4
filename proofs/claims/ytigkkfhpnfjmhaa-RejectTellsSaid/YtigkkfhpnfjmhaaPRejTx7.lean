/- Laid by a program of this session over the printer of the kit: contracts of functions of the given program, and rows of laws. Lean checks it. -/
import Derived.Test.YtigkkfhpnfjmhaaPRejTx0
import Derived.Test.YtigkkfhpnfjmhaaPRejTx5
import Derived.Test.YtigkkfhpnfjmhaaPRejTx6
namespace Go.Proofs.Ytigkkfhpnfjmhaa.PRejT
open Go.RowKit Go.Proofs.YtigkkfhpnfjmhaaW.PrintWords Go.Proofs.YtigkkfhpnfjmhaaW.PrintLast Go.Proofs.YtigkkfhpnfjmhaaW.PrintMore
attribute [local go_sem] max2_int min2_int max_two min_two max_three min_three max_four min_four   -- for this text's walks alone
set_option linter.unusedVariables false
set_option linter.unusedSimpArgs false

/-! ### watersmeetref07_all: function 93 -/
mutual
def watersmeetref07_all.l0 : Nat → List (S46) → Int → Int → Option (Bool)
 | 0, _, _, _ => none
 | k + 1, x0, x1, x5 => if x5 < (x0.length : Int) then (if 0 ≤ x5 then ((watersmeetref07_Is.f k ((rd_T46 x0 x5).f0) ((rd_T46 x0 x5).f1) ((rd_T46 x0 x5).f2) ((rd_T46 x0 x5).f3.f0) ((rd_T46 x0 x5).f3.f1) ((rd_T46 x0 x5).f3.f2) ((rd_T46 x0 x5).f3.f3.f0) ((rd_T46 x0 x5).f3.f3.f1) ((rd_T46 x0 x5).f4.f0) ((rd_T46 x0 x5).f4.f1) ((rd_T46 x0 x5).f4.f2) ((rd_T46 x0 x5).f4.f3.f0) ((rd_T46 x0 x5).f4.f3.f1) ((rd_T46 x0 x5).f5) x1 0).bind fun t437 => (if t437 = true then (watersmeetref07_all.l0 k x0 x1 (wrap64 (x5 + 1))) else ((watersmeetref07_Is.f k ((rd_T46 x0 x5).f0) ((rd_T46 x0 x5).f1) ((rd_T46 x0 x5).f2) ((rd_T46 x0 x5).f3.f0) ((rd_T46 x0 x5).f3.f1) ((rd_T46 x0 x5).f3.f2) ((rd_T46 x0 x5).f3.f3.f0) ((rd_T46 x0 x5).f3.f3.f1) ((rd_T46 x0 x5).f4.f0) ((rd_T46 x0 x5).f4.f1) ((rd_T46 x0 x5).f4.f2) ((rd_T46 x0 x5).f4.f3.f0) ((rd_T46 x0 x5).f4.f3.f1) ((rd_T46 x0 x5).f5) x1 1).bind fun t439 => (if t439 = true then (watersmeetref07_all.l0 k x0 x1 (wrap64 (x5 + 1))) else ((watersmeetref07_Is.f k ((rd_T46 x0 x5).f0) ((rd_T46 x0 x5).f1) ((rd_T46 x0 x5).f2) ((rd_T46 x0 x5).f3.f0) ((rd_T46 x0 x5).f3.f1) ((rd_T46 x0 x5).f3.f2) ((rd_T46 x0 x5).f3.f3.f0) ((rd_T46 x0 x5).f3.f3.f1) ((rd_T46 x0 x5).f4.f0) ((rd_T46 x0 x5).f4.f1) ((rd_T46 x0 x5).f4.f2) ((rd_T46 x0 x5).f4.f3.f0) ((rd_T46 x0 x5).f4.f3.f1) ((rd_T46 x0 x5).f5) x1 2).bind fun t441 => (if t441 = true then (watersmeetref07_all.l0 k x0 x1 (wrap64 (x5 + 1))) else (some false))))))) else (none)) else (some true)
def watersmeetref07_all.f : Nat → List (S46) → Int → Option (Bool)
 | 0, _, _ => none
 | k + 1, l0, a1 => watersmeetref07_all.l0 k l0 a1 0
def watersmeetref07_Is.f : Nat → Int → Int → Int → Int → Int → Int → Bool → Int → Int → Int → Int → Bool → Int → List (S46) → Int → Int → Option (Bool)
 | 0, _, _, _, _, _, _, _, _, _, _, _, _, _, _, _, _ => none
 | k + 1, a0_0, a0_1, a0_2, a0_3, a0_4, a0_5, a0_6, a0_7, a0_8, a0_9, a0_10, a0_11, a0_12, l0_13, a1, a2 => if a0_0 = 1 then (if a2 = a0_1 then (some true) else (if a2 = 1 then (if a0_1 < 0 then (some true) else (some (decide (a0_1 > 2)))) else (some false))) else (if a0_0 = 2 then (if a0_2 < 1 then (some (a2 == 1)) else (if a0_2 > 6 then (some (a2 == 1)) else ((watersmeetref07_sure.f k a0_3 a0_4 a0_5 a0_6 a0_7 a1).bind fun t443 => (if t443 = true then (some (a2 == 1)) else ((watersmeetref07_sure.f k a0_8 a0_9 a0_10 a0_11 a0_12 a1).bind fun t444 => (if t444 = true then (some (a2 == 1)) else (if a0_3 = 1 then (some true) else (if a0_8 = 1 then (some true) else ((watersmeetref03_Compare.f k a0_2 a0_6 a0_7 a0_11 a0_12).bind fun t445 => (some (a2 == t445))))))))))) else (if a0_0 = 3 then ((watersmeetref07_sure.f k a0_3 a0_4 a0_5 a0_6 a0_7 a1).bind fun t446 => (if t446 = true then (some (a2 == 2)) else (if a2 = 0 then (some true) else (if a2 = 2 then (some (a0_3 == 1)) else (some false))))) else (if a0_0 = 4 then ((watersmeetref07_many.f k l0_13 a1 a2 2).bind fun t447 => (some t447)) else (if a0_0 = 5 then ((watersmeetref07_many.f k l0_13 a1 a2 0).bind fun t448 => (some t448)) else (if a0_0 = 6 then (if (l0_13.length : Int) > 0 then (if 0 < (l0_13.length : Int) then ((watersmeetref07_Is.f k ((rd_T46 l0_13 0).f0) ((rd_T46 l0_13 0).f1) ((rd_T46 l0_13 0).f2) ((rd_T46 l0_13 0).f3.f0) ((rd_T46 l0_13 0).f3.f1) ((rd_T46 l0_13 0).f3.f2) ((rd_T46 l0_13 0).f3.f3.f0) ((rd_T46 l0_13 0).f3.f3.f1) ((rd_T46 l0_13 0).f4.f0) ((rd_T46 l0_13 0).f4.f1) ((rd_T46 l0_13 0).f4.f2) ((rd_T46 l0_13 0).f4.f3.f0) ((rd_T46 l0_13 0).f4.f3.f1) ((rd_T46 l0_13 0).f5) a1 (wrap64 (2 - a2))).bind fun t450 => (some t450)) else (none)) else (some (a2 == 1))) else (some (a2 == 1)))))))
def watersmeetref07_many.f : Nat → List (S46) → Int → Int → Int → Option (Bool)
 | 0, _, _, _, _ => none
 | k + 1, l0, a1, a2, a3 => (watersmeetref07_all.f k l0 a1).bind fun t451 => (if t451 = true then (if a2 = a3 then ((watersmeetref07_every.f k l0 a1 a3 a3).bind fun t452 => (some t452)) else (if a2 = 1 then ((watersmeetref07_some.f k l0 a1 1).bind fun t453 => (if t453 = true then ((watersmeetref07_every.f k l0 a1 1 a3).bind fun t454 => (some t454)) else (some false))) else ((watersmeetref07_some.f k l0 a1 (wrap64 (2 - a3))).bind fun t455 => (some t455)))) else (some false))
def watersmeetref07_every.l0 : Nat → List (S46) → Int → Int → Int → Int → Option (Bool)
 | 0, _, _, _, _, _ => none
 | k + 1, x0, x1, x2, x3, x9 => if x9 < (x0.length : Int) then (if 0 ≤ x9 then ((watersmeetref07_Is.f k ((rd_T46 x0 x9).f0) ((rd_T46 x0 x9).f1) ((rd_T46 x0 x9).f2) ((rd_T46 x0 x9).f3.f0) ((rd_T46 x0 x9).f3.f1) ((rd_T46 x0 x9).f3.f2) ((rd_T46 x0 x9).f3.f3.f0) ((rd_T46 x0 x9).f3.f3.f1) ((rd_T46 x0 x9).f4.f0) ((rd_T46 x0 x9).f4.f1) ((rd_T46 x0 x9).f4.f2) ((rd_T46 x0 x9).f4.f3.f0) ((rd_T46 x0 x9).f4.f3.f1) ((rd_T46 x0 x9).f5) x1 x2).bind fun t457 => (if t457 = true then (watersmeetref07_every.l0 k x0 x1 x2 x3 (wrap64 (x9 + 1))) else ((watersmeetref07_Is.f k ((rd_T46 x0 x9).f0) ((rd_T46 x0 x9).f1) ((rd_T46 x0 x9).f2) ((rd_T46 x0 x9).f3.f0) ((rd_T46 x0 x9).f3.f1) ((rd_T46 x0 x9).f3.f2) ((rd_T46 x0 x9).f3.f3.f0) ((rd_T46 x0 x9).f3.f3.f1) ((rd_T46 x0 x9).f4.f0) ((rd_T46 x0 x9).f4.f1) ((rd_T46 x0 x9).f4.f2) ((rd_T46 x0 x9).f4.f3.f0) ((rd_T46 x0 x9).f4.f3.f1) ((rd_T46 x0 x9).f5) x1 x3).bind fun t459 => (if t459 = true then (watersmeetref07_every.l0 k x0 x1 x2 x3 (wrap64 (x9 + 1))) else (some false))))) else (none)) else (some true)
def watersmeetref07_every.f : Nat → List (S46) → Int → Int → Int → Option (Bool)
 | 0, _, _, _, _ => none
 | k + 1, l0, a1, a2, a3 => watersmeetref07_every.l0 k l0 a1 a2 a3 0
def watersmeetref07_some.l0 : Nat → List (S46) → Int → Int → Int → Option (Bool)
 | 0, _, _, _, _ => none
 | k + 1, x0, x1, x2, x7 => if x7 < (x0.length : Int) then (if 0 ≤ x7 then ((watersmeetref07_Is.f k ((rd_T46 x0 x7).f0) ((rd_T46 x0 x7).f1) ((rd_T46 x0 x7).f2) ((rd_T46 x0 x7).f3.f0) ((rd_T46 x0 x7).f3.f1) ((rd_T46 x0 x7).f3.f2) ((rd_T46 x0 x7).f3.f3.f0) ((rd_T46 x0 x7).f3.f3.f1) ((rd_T46 x0 x7).f4.f0) ((rd_T46 x0 x7).f4.f1) ((rd_T46 x0 x7).f4.f2) ((rd_T46 x0 x7).f4.f3.f0) ((rd_T46 x0 x7).f4.f3.f1) ((rd_T46 x0 x7).f5) x1 x2).bind fun t461 => (if t461 = true then (some true) else (watersmeetref07_some.l0 k x0 x1 x2 (wrap64 (x7 + 1))))) else (none)) else (some false)
def watersmeetref07_some.f : Nat → List (S46) → Int → Int → Option (Bool)
 | 0, _, _, _ => none
 | k + 1, l0, a1, a2 => watersmeetref07_some.l0 k l0 a1 a2 0
end
theorem watersmeetref07_all.mono_g : ∀ k, (∀ y0 y1, LeO (watersmeetref07_all.f k y0 y1) (watersmeetref07_all.f (k + 1) y0 y1)) ∧ (∀ y0 y1 y2, LeO (watersmeetref07_all.l0 k y0 y1 y2) (watersmeetref07_all.l0 (k + 1) y0 y1 y2)) ∧ (∀ y0 y1 y2 y3 y4 y5 y6 y7 y8 y9 y10 y11 y12 y13 y14 y15, LeO (watersmeetref07_Is.f k y0 y1 y2 y3 y4 y5 y6 y7 y8 y9 y10 y11 y12 y13 y14 y15) (watersmeetref07_Is.f (k + 1) y0 y1 y2 y3 y4 y5 y6 y7 y8 y9 y10 y11 y12 y13 y14 y15)) ∧ (∀ y0 y1 y2 y3, LeO (watersmeetref07_many.f k y0 y1 y2 y3) (watersmeetref07_many.f (k + 1) y0 y1 y2 y3)) ∧ (∀ y0 y1 y2 y3, LeO (watersmeetref07_every.f k y0 y1 y2 y3) (watersmeetref07_every.f (k + 1) y0 y1 y2 y3)) ∧ (∀ y0 y1 y2 y3 y4, LeO (watersmeetref07_every.l0 k y0 y1 y2 y3 y4) (watersmeetref07_every.l0 (k + 1) y0 y1 y2 y3 y4)) ∧ (∀ y0 y1 y2, LeO (watersmeetref07_some.f k y0 y1 y2) (watersmeetref07_some.f (k + 1) y0 y1 y2)) ∧ (∀ y0 y1 y2 y3, LeO (watersmeetref07_some.l0 k y0 y1 y2 y3) (watersmeetref07_some.l0 (k + 1) y0 y1 y2 y3))
 | 0 => ⟨fun _ _ r h => by simp [watersmeetref07_all.f] at h, fun _ _ _ r h => by simp [watersmeetref07_all.l0] at h, fun _ _ _ _ _ _ _ _ _ _ _ _ _ _ _ _ r h => by simp [watersmeetref07_Is.f] at h, fun _ _ _ _ r h => by simp [watersmeetref07_many.f] at h, fun _ _ _ _ r h => by simp [watersmeetref07_every.f] at h, fun _ _ _ _ _ r h => by simp [watersmeetref07_every.l0] at h, fun _ _ _ r h => by simp [watersmeetref07_some.f] at h, fun _ _ _ _ r h => by simp [watersmeetref07_some.l0] at h⟩
 | k + 1 => by
  obtain ⟨ih0, ih1, ih2, ih3, ih4, ih5, ih6, ih7⟩ := watersmeetref07_all.mono_g k
  refine ⟨?_, ?_, ?_, ?_, ?_, ?_, ?_, ?_⟩
  ·intro y0 y1
   unfold watersmeetref07_all.f
   repeat' first
   | (with_reducible exact ih0 _ _)
   | (with_reducible exact ih1 _ _ _)
   | (with_reducible exact ih2 _ _ _ _ _ _ _ _ _ _ _ _ _ _ _ _)
   | (with_reducible exact ih3 _ _ _ _)
   | (with_reducible exact ih4 _ _ _ _)
   | (with_reducible exact ih5 _ _ _ _ _)
   | (with_reducible exact ih6 _ _ _)
   | (with_reducible exact ih7 _ _ _ _)
   | (with_reducible exact watersmeetref03_Compare.mono _ _ _ _ _ _)
   | (with_reducible exact watersmeetref07_sure.mono _ _ _ _ _ _ _)
   | (with_reducible exact LeO.refl _)
   | (with_reducible exact LeO.none _)
   | (with_reducible refine LeO.ite ?_ ?_)
   | (with_reducible refine LeO.bind ?_ (fun _ => ?_))
   | exact ih0 _ _
   | exact ih1 _ _ _
   | exact ih2 _ _ _ _ _ _ _ _ _ _ _ _ _ _ _ _
   | exact ih3 _ _ _ _
   | exact ih4 _ _ _ _
   | exact ih5 _ _ _ _ _
   | exact ih6 _ _ _
   | exact ih7 _ _ _ _
   | exact watersmeetref03_Compare.mono _ _ _ _ _ _
   | exact watersmeetref07_sure.mono _ _ _ _ _ _ _
   | exact LeO.none _
   | refine LeO.ite ?_ ?_
   | refine LeO.bind ?_ (fun _ => ?_)
  ·intro y0 y1 y2
   unfold watersmeetref07_all.l0
   repeat' first
   | (with_reducible exact ih0 _ _)
   | (with_reducible exact ih1 _ _ _)
   | (with_reducible exact ih2 _ _ _ _ _ _ _ _ _ _ _ _ _ _ _ _)
   | (with_reducible exact ih3 _ _ _ _)
   | (with_reducible exact ih4 _ _ _ _)
   | (with_reducible exact ih5 _ _ _ _ _)
   | (with_reducible exact ih6 _ _ _)
   | (with_reducible exact ih7 _ _ _ _)
   | (with_reducible exact watersmeetref03_Compare.mono _ _ _ _ _ _)
   | (with_reducible exact watersmeetref07_sure.mono _ _ _ _ _ _ _)
   | (with_reducible exact LeO.refl _)
   | (with_reducible exact LeO.none _)
   | (with_reducible refine LeO.ite ?_ ?_)
   | (with_reducible refine LeO.bind ?_ (fun _ => ?_))
   | exact ih0 _ _
   | exact ih1 _ _ _
   | exact ih2 _ _ _ _ _ _ _ _ _ _ _ _ _ _ _ _
   | exact ih3 _ _ _ _
   | exact ih4 _ _ _ _
   | exact ih5 _ _ _ _ _
   | exact ih6 _ _ _
   | exact ih7 _ _ _ _
   | exact watersmeetref03_Compare.mono _ _ _ _ _ _
   | exact watersmeetref07_sure.mono _ _ _ _ _ _ _
   | exact LeO.none _
   | refine LeO.ite ?_ ?_
   | refine LeO.bind ?_ (fun _ => ?_)
  ·intro y0 y1 y2 y3 y4 y5 y6 y7 y8 y9 y10 y11 y12 y13 y14 y15
   unfold watersmeetref07_Is.f
   repeat' first
   | (with_reducible exact ih0 _ _)
   | (with_reducible exact ih1 _ _ _)
   | (with_reducible exact ih2 _ _ _ _ _ _ _ _ _ _ _ _ _ _ _ _)
   | (with_reducible exact ih3 _ _ _ _)
   | (with_reducible exact ih4 _ _ _ _)
   | (with_reducible exact ih5 _ _ _ _ _)
   | (with_reducible exact ih6 _ _ _)
   | (with_reducible exact ih7 _ _ _ _)
   | (with_reducible exact watersmeetref03_Compare.mono _ _ _ _ _ _)
   | (with_reducible exact watersmeetref07_sure.mono _ _ _ _ _ _ _)
   | (with_reducible exact LeO.refl _)
   | (with_reducible exact LeO.none _)
   | (with_reducible refine LeO.ite ?_ ?_)
   | (with_reducible refine LeO.bind ?_ (fun _ => ?_))
   | exact ih0 _ _
   | exact ih1 _ _ _
   | exact ih2 _ _ _ _ _ _ _ _ _ _ _ _ _ _ _ _
   | exact ih3 _ _ _ _
   | exact ih4 _ _ _ _
   | exact ih5 _ _ _ _ _
   | exact ih6 _ _ _
   | exact ih7 _ _ _ _
   | exact watersmeetref03_Compare.mono _ _ _ _ _ _
   | exact watersmeetref07_sure.mono _ _ _ _ _ _ _
   | exact LeO.none _
   | refine LeO.ite ?_ ?_
   | refine LeO.bind ?_ (fun _ => ?_)
  ·intro y0 y1 y2 y3
   unfold watersmeetref07_many.f
   repeat' first
   | (with_reducible exact ih0 _ _)
   | (with_reducible exact ih1 _ _ _)
   | (with_reducible exact ih2 _ _ _ _ _ _ _ _ _ _ _ _ _ _ _ _)
   | (with_reducible exact ih3 _ _ _ _)
   | (with_reducible exact ih4 _ _ _ _)
   | (with_reducible exact ih5 _ _ _ _ _)
   | (with_reducible exact ih6 _ _ _)
   | (with_reducible exact ih7 _ _ _ _)
   | (with_reducible exact watersmeetref03_Compare.mono _ _ _ _ _ _)
   | (with_reducible exact watersmeetref07_sure.mono _ _ _ _ _ _ _)
   | (with_reducible exact LeO.refl _)
   | (with_reducible exact LeO.none _)
   | (with_reducible refine LeO.ite ?_ ?_)
   | (with_reducible refine LeO.bind ?_ (fun _ => ?_))
   | exact ih0 _ _
   | exact ih1 _ _ _
   | exact ih2 _ _ _ _ _ _ _ _ _ _ _ _ _ _ _ _
   | exact ih3 _ _ _ _
   | exact ih4 _ _ _ _
   | exact ih5 _ _ _ _ _
   | exact ih6 _ _ _
   | exact ih7 _ _ _ _
   | exact watersmeetref03_Compare.mono _ _ _ _ _ _
   | exact watersmeetref07_sure.mono _ _ _ _ _ _ _
   | exact LeO.none _
   | refine LeO.ite ?_ ?_
   | refine LeO.bind ?_ (fun _ => ?_)
  ·intro y0 y1 y2 y3
   unfold watersmeetref07_every.f
   repeat' first
   | (with_reducible exact ih0 _ _)
   | (with_reducible exact ih1 _ _ _)
   | (with_reducible exact ih2 _ _ _ _ _ _ _ _ _ _ _ _ _ _ _ _)
   | (with_reducible exact ih3 _ _ _ _)
   | (with_reducible exact ih4 _ _ _ _)
   | (with_reducible exact ih5 _ _ _ _ _)
   | (with_reducible exact ih6 _ _ _)
   | (with_reducible exact ih7 _ _ _ _)
   | (with_reducible exact watersmeetref03_Compare.mono _ _ _ _ _ _)
   | (with_reducible exact watersmeetref07_sure.mono _ _ _ _ _ _ _)
   | (with_reducible exact LeO.refl _)
   | (with_reducible exact LeO.none _)
   | (with_reducible refine LeO.ite ?_ ?_)
   | (with_reducible refine LeO.bind ?_ (fun _ => ?_))
   | exact ih0 _ _
   | exact ih1 _ _ _
   | exact ih2 _ _ _ _ _ _ _ _ _ _ _ _ _ _ _ _
   | exact ih3 _ _ _ _
   | exact ih4 _ _ _ _
   | exact ih5 _ _ _ _ _
   | exact ih6 _ _ _
   | exact ih7 _ _ _ _
   | exact watersmeetref03_Compare.mono _ _ _ _ _ _
   | exact watersmeetref07_sure.mono _ _ _ _ _ _ _
   | exact LeO.none _
   | refine LeO.ite ?_ ?_
   | refine LeO.bind ?_ (fun _ => ?_)
  ·intro y0 y1 y2 y3 y4
   unfold watersmeetref07_every.l0
   repeat' first
   | (with_reducible exact ih0 _ _)
   | (with_reducible exact ih1 _ _ _)
   | (with_reducible exact ih2 _ _ _ _ _ _ _ _ _ _ _ _ _ _ _ _)
   | (with_reducible exact ih3 _ _ _ _)
   | (with_reducible exact ih4 _ _ _ _)
   | (with_reducible exact ih5 _ _ _ _ _)
   | (with_reducible exact ih6 _ _ _)
   | (with_reducible exact ih7 _ _ _ _)
   | (with_reducible exact watersmeetref03_Compare.mono _ _ _ _ _ _)
   | (with_reducible exact watersmeetref07_sure.mono _ _ _ _ _ _ _)
   | (with_reducible exact LeO.refl _)
   | (with_reducible exact LeO.none _)
   | (with_reducible refine LeO.ite ?_ ?_)
   | (with_reducible refine LeO.bind ?_ (fun _ => ?_))
   | exact ih0 _ _
   | exact ih1 _ _ _
   | exact ih2 _ _ _ _ _ _ _ _ _ _ _ _ _ _ _ _
   | exact ih3 _ _ _ _
   | exact ih4 _ _ _ _
   | exact ih5 _ _ _ _ _
   | exact ih6 _ _ _
   | exact ih7 _ _ _ _
   | exact watersmeetref03_Compare.mono _ _ _ _ _ _
   | exact watersmeetref07_sure.mono _ _ _ _ _ _ _
   | exact LeO.none _
   | refine LeO.ite ?_ ?_
   | refine LeO.bind ?_ (fun _ => ?_)
  ·intro y0 y1 y2
   unfold watersmeetref07_some.f
   repeat' first
   | (with_reducible exact ih0 _ _)
   | (with_reducible exact ih1 _ _ _)
   | (with_reducible exact ih2 _ _ _ _ _ _ _ _ _ _ _ _ _ _ _ _)
   | (with_reducible exact ih3 _ _ _ _)
   | (with_reducible exact ih4 _ _ _ _)
   | (with_reducible exact ih5 _ _ _ _ _)
   | (with_reducible exact ih6 _ _ _)
   | (with_reducible exact ih7 _ _ _ _)
   | (with_reducible exact watersmeetref03_Compare.mono _ _ _ _ _ _)
   | (with_reducible exact watersmeetref07_sure.mono _ _ _ _ _ _ _)
   | (with_reducible exact LeO.refl _)
   | (with_reducible exact LeO.none _)
   | (with_reducible refine LeO.ite ?_ ?_)
   | (with_reducible refine LeO.bind ?_ (fun _ => ?_))
   | exact ih0 _ _
   | exact ih1 _ _ _
   | exact ih2 _ _ _ _ _ _ _ _ _ _ _ _ _ _ _ _
   | exact ih3 _ _ _ _
   | exact ih4 _ _ _ _
   | exact ih5 _ _ _ _ _
   | exact ih6 _ _ _
   | exact ih7 _ _ _ _
   | exact watersmeetref03_Compare.mono _ _ _ _ _ _
   | exact watersmeetref07_sure.mono _ _ _ _ _ _ _
   | exact LeO.none _
   | refine LeO.ite ?_ ?_
   | refine LeO.bind ?_ (fun _ => ?_)
  ·intro y0 y1 y2 y3
   unfold watersmeetref07_some.l0
   repeat' first
   | (with_reducible exact ih0 _ _)
   | (with_reducible exact ih1 _ _ _)
   | (with_reducible exact ih2 _ _ _ _ _ _ _ _ _ _ _ _ _ _ _ _)
   | (with_reducible exact ih3 _ _ _ _)
   | (with_reducible exact ih4 _ _ _ _)
   | (with_reducible exact ih5 _ _ _ _ _)
   | (with_reducible exact ih6 _ _ _)
   | (with_reducible exact ih7 _ _ _ _)
   | (with_reducible exact watersmeetref03_Compare.mono _ _ _ _ _ _)
   | (with_reducible exact watersmeetref07_sure.mono _ _ _ _ _ _ _)
   | (with_reducible exact LeO.refl _)
   | (with_reducible exact LeO.none _)
   | (with_reducible refine LeO.ite ?_ ?_)
   | (with_reducible refine LeO.bind ?_ (fun _ => ?_))
   | exact ih0 _ _
   | exact ih1 _ _ _
   | exact ih2 _ _ _ _ _ _ _ _ _ _ _ _ _ _ _ _
   | exact ih3 _ _ _ _
   | exact ih4 _ _ _ _
   | exact ih5 _ _ _ _ _
   | exact ih6 _ _ _
   | exact ih7 _ _ _ _
   | exact watersmeetref03_Compare.mono _ _ _ _ _ _
   | exact watersmeetref07_sure.mono _ _ _ _ _ _ _
   | exact LeO.none _
   | refine LeO.ite ?_ ?_
   | refine LeO.bind ?_ (fun _ => ?_)
theorem watersmeetref07_all.mono : ∀ a0 a1 k, LeO (watersmeetref07_all.f k a0 a1) (watersmeetref07_all.f (k + 1) a0 a1) := by
 intro a0 a1 k
 obtain ⟨ih0, ih1, ih2, ih3, ih4, ih5, ih6, ih7⟩ := watersmeetref07_all.mono_g k
 exact ih0 a0 a1
theorem watersmeetref07_Is.mono : ∀ a0 a1 a2 a3 a4 a5 a6 a7 a8 a9 a10 a11 a12 a13 a14 a15 k, LeO (watersmeetref07_Is.f k a0 a1 a2 a3 a4 a5 a6 a7 a8 a9 a10 a11 a12 a13 a14 a15) (watersmeetref07_Is.f (k + 1) a0 a1 a2 a3 a4 a5 a6 a7 a8 a9 a10 a11 a12 a13 a14 a15) := by
 intro a0 a1 a2 a3 a4 a5 a6 a7 a8 a9 a10 a11 a12 a13 a14 a15 k
 obtain ⟨ih0, ih1, ih2, ih3, ih4, ih5, ih6, ih7⟩ := watersmeetref07_all.mono_g k
 exact ih2 a0 a1 a2 a3 a4 a5 a6 a7 a8 a9 a10 a11 a12 a13 a14 a15
theorem watersmeetref07_many.mono : ∀ a0 a1 a2 a3 k, LeO (watersmeetref07_many.f k a0 a1 a2 a3) (watersmeetref07_many.f (k + 1) a0 a1 a2 a3) := by
 intro a0 a1 a2 a3 k
 obtain ⟨ih0, ih1, ih2, ih3, ih4, ih5, ih6, ih7⟩ := watersmeetref07_all.mono_g k
 exact ih3 a0 a1 a2 a3
theorem watersmeetref07_every.mono : ∀ a0 a1 a2 a3 k, LeO (watersmeetref07_every.f k a0 a1 a2 a3) (watersmeetref07_every.f (k + 1) a0 a1 a2 a3) := by
 intro a0 a1 a2 a3 k
 obtain ⟨ih0, ih1, ih2, ih3, ih4, ih5, ih6, ih7⟩ := watersmeetref07_all.mono_g k
 exact ih4 a0 a1 a2 a3
theorem watersmeetref07_some.mono : ∀ a0 a1 a2 k, LeO (watersmeetref07_some.f k a0 a1 a2) (watersmeetref07_some.f (k + 1) a0 a1 a2) := by
 intro a0 a1 a2 k
 obtain ⟨ih0, ih1, ih2, ih3, ih4, ih5, ih6, ih7⟩ := watersmeetref07_all.mono_g k
 exact ih6 a0 a1 a2
@[reducible] def watersmeetref07_all.Says (k : Nat) : Prop := ∀ (A0 : Option Addr) (c0 : Nat) (l0 : List (S46)) (a1 : Int) (r : Bool) (w : World) (hr0 : Kd.C k46 w A0 l0.length l0) (hc0 : l0.length ≤ c0) (h : watersmeetref07_all.f k l0 a1 = some r),
  Calls Try.prog 93 #[.slice A0 l0.length c0, .int .u64 a1] w fun e w' => e = .returned (.bool r) ∧ Below w.heap.size w w'
@[reducible] def watersmeetref07_Is.Says (k : Nat) : Prop := ∀ (a0_0 : Int) (a0_1 : Int) (a0_2 : Int) (a0_3 : Int) (a0_4 : Int) (a0_5 : Int) (a0_6 : Bool) (a0_7 : Int) (a0_8 : Int) (a0_9 : Int) (a0_10 : Int) (a0_11 : Bool) (a0_12 : Int) (A0_13 : Option Addr) (c0_13 : Nat) (l0_13 : List (S46)) (a1 : Int) (a2 : Int) (r : Bool) (w : World) (hr0_13 : Kd.C k46 w A0_13 l0_13.length l0_13) (hc0_13 : l0_13.length ≤ c0_13) (h : watersmeetref07_Is.f k a0_0 a0_1 a0_2 a0_3 a0_4 a0_5 a0_6 a0_7 a0_8 a0_9 a0_10 a0_11 a0_12 l0_13 a1 a2 = some r),
  Calls Try.prog 27 #[.agg #[.int .i64 a0_0, .int .i64 a0_1, .int .i64 a0_2, .int .i64 a0_3, .int .i64 a0_4, .int .i64 a0_5, .bool a0_6, .int .i64 a0_7, .int .i64 a0_8, .int .i64 a0_9, .int .i64 a0_10, .bool a0_11, .int .i64 a0_12, .slice A0_13 l0_13.length c0_13], .int .u64 a1, .int .i64 a2] w fun e w' => e = .returned (.bool r) ∧ Below w.heap.size w w'
@[reducible] def watersmeetref07_many.Says (k : Nat) : Prop := ∀ (A0 : Option Addr) (c0 : Nat) (l0 : List (S46)) (a1 : Int) (a2 : Int) (a3 : Int) (r : Bool) (w : World) (hr0 : Kd.C k46 w A0 l0.length l0) (hc0 : l0.length ≤ c0) (h : watersmeetref07_many.f k l0 a1 a2 a3 = some r),
  Calls Try.prog 65 #[.slice A0 l0.length c0, .int .u64 a1, .int .i64 a2, .int .i64 a3] w fun e w' => e = .returned (.bool r) ∧ Below w.heap.size w w'
@[reducible] def watersmeetref07_every.Says (k : Nat) : Prop := ∀ (A0 : Option Addr) (c0 : Nat) (l0 : List (S46)) (a1 : Int) (a2 : Int) (a3 : Int) (r : Bool) (w : World) (hr0 : Kd.C k46 w A0 l0.length l0) (hc0 : l0.length ≤ c0) (h : watersmeetref07_every.f k l0 a1 a2 a3 = some r),
  Calls Try.prog 94 #[.slice A0 l0.length c0, .int .u64 a1, .int .i64 a2, .int .i64 a3] w fun e w' => e = .returned (.bool r) ∧ Below w.heap.size w w'
@[reducible] def watersmeetref07_some.Says (k : Nat) : Prop := ∀ (A0 : Option Addr) (c0 : Nat) (l0 : List (S46)) (a1 : Int) (a2 : Int) (r : Bool) (w : World) (hr0 : Kd.C k46 w A0 l0.length l0) (hc0 : l0.length ≤ c0) (h : watersmeetref07_some.f k l0 a1 a2 = some r),
  Calls Try.prog 95 #[.slice A0 l0.length c0, .int .u64 a1, .int .i64 a2] w fun e w' => e = .returned (.bool r) ∧ Below w.heap.size w w'
set_option maxHeartbeats 8000000 in
set_option maxRecDepth 100000 in
theorem watersmeetref07_all.calls_of (k : Nat) (ih : ∀ j_, j_ < k → watersmeetref07_all.Says j_) (ihg_watersmeetref07_Is : ∀ j_, j_ < k → watersmeetref07_Is.Says j_) (ihg_watersmeetref07_many : ∀ j_, j_ < k → watersmeetref07_many.Says j_) (ihg_watersmeetref07_every : ∀ j_, j_ < k → watersmeetref07_every.Says j_) (ihg_watersmeetref07_some : ∀ j_, j_ < k → watersmeetref07_some.Says j_) : watersmeetref07_all.Says k := by
 unfold watersmeetref07_all.Says
 intro A0 c0 l0 a1 r w hr0 hc0 h
 cases k with
 | zero => exact absurd h (by simp [watersmeetref07_all.f])
 | succ k =>
 simp only [watersmeetref07_all.f] at h
 have hu46 := Try.underlying46
 have HR0 := Aside0.mk hr0
 have HC0 := Aside0.mk hc0
 clear hr0 hc0
 have HB := Aside0.mk (Below.refl w.heap.size w)
 have H : (watersmeetref07_all.l0 k l0 a1 0) = some r := h
 clear h
 have H' := Aside0.mk H
 clear H
 go_enter Try.func93, Try.ntmps93
 go_wp2
 go_loopg [5] k (fun kq v5 w' => ∃ (x5_1 : Int), v5 = .int .i64 x5_1 ∧ Aside0 (watersmeetref07_all.l0 kq l0 a1 x5_1 = some r) ∧ Aside0 (kq ≤ k) ∧ Aside0 (Below w.heap.size w w'))
 case atStart => exact ⟨(0), (by first | rfl | (simp; done) | (simp [*]; done)), H', ⟨Nat.le_refl _⟩, ⟨by repeat (first | (with_reducible first | exact HB.out | apply below_alloc | apply pw_below_drewN | apply below_drew1) | exact HB.out)⟩⟩
 case round =>
  clear H'
  try clear p2
  obtain ⟨x5_1, rfl, HA, HK1, HB⟩ := hrel
  cases gk with
  | zero => exact absurd HA.out (by simp [watersmeetref07_all.l0])
  | succ k1 =>
   have H := HA.out
   clear HA
   simp only [watersmeetref07_all.l0] at H
   by_cases c3 : x5_1 < (l0.length : Int)
   ·rw [if_pos c3] at H
    have c3b0 : decide (x5_1 < (l0.length : Int)) = true := decide_eq_true c3
    clear c3
    by_cases c4 : 0 ≤ x5_1
    ·rw [if_pos c4] at H
     have c4b0 : decide (0 ≤ x5_1) = true := decide_eq_true c4
     clear c4
     replace H := Option.bind_eq_some_iff.mp H
     obtain ⟨t437, A50, H⟩ := H
     replace H : (if t437 = true then (watersmeetref07_all.l0 k1 l0 a1 (wrap64 (x5_1 + 1))) else ((watersmeetref07_Is.f k1 ((rd_T46 l0 x5_1).f0) ((rd_T46 l0 x5_1).f1) ((rd_T46 l0 x5_1).f2) ((rd_T46 l0 x5_1).f3.f0) ((rd_T46 l0 x5_1).f3.f1) ((rd_T46 l0 x5_1).f3.f2) ((rd_T46 l0 x5_1).f3.f3.f0) ((rd_T46 l0 x5_1).f3.f3.f1) ((rd_T46 l0 x5_1).f4.f0) ((rd_T46 l0 x5_1).f4.f1) ((rd_T46 l0 x5_1).f4.f2) ((rd_T46 l0 x5_1).f4.f3.f0) ((rd_T46 l0 x5_1).f4.f3.f1) ((rd_T46 l0 x5_1).f5) a1 1).bind fun t439 => (if t439 = true then (watersmeetref07_all.l0 k1 l0 a1 (wrap64 (x5_1 + 1))) else ((watersmeetref07_Is.f k1 ((rd_T46 l0 x5_1).f0) ((rd_T46 l0 x5_1).f1) ((rd_T46 l0 x5_1).f2) ((rd_T46 l0 x5_1).f3.f0) ((rd_T46 l0 x5_1).f3.f1) ((rd_T46 l0 x5_1).f3.f2) ((rd_T46 l0 x5_1).f3.f3.f0) ((rd_T46 l0 x5_1).f3.f3.f1) ((rd_T46 l0 x5_1).f4.f0) ((rd_T46 l0 x5_1).f4.f1) ((rd_T46 l0 x5_1).f4.f2) ((rd_T46 l0 x5_1).f4.f3.f0) ((rd_T46 l0 x5_1).f4.f3.f1) ((rd_T46 l0 x5_1).f5) a1 2).bind fun t441 => (if t441 = true then (watersmeetref07_all.l0 k1 l0 a1 (wrap64 (x5_1 + 1))) else (some false)))))) = some r := H
     have A5 := Aside0.mk A50
     clear A50
     by_cases c6 : t437 = true
     ·subst c6
      have H1 : (watersmeetref07_all.l0 k1 l0 a1 (wrap64 (x5_1 + 1))) = some r := by rw [if_pos rfl] at H; exact H
      clear H
      have H := H1
      clear H1
      have H' := Aside0.mk H
      clear H
      have p436 : 0 ≤ (x5_1 : Int) := of_decide_eq_true (by first | (with_reducible assumption) | assumption)
      have q436 : x5_1 < (l0.length : Int) := of_decide_eq_true (by first | (with_reducible assumption) | assumption)
      obtain ⟨ad436, A436_13, c436_13, e436, hx436_0, hx436_1, hx436_2, hx436_3, hx436_4, hx436_5, hx436_6, hx436_7, hx436_8, hx436_9, hx436_10, hx436_11, hx436_12, hx436_13, hl436_13, hi436_13⟩ := at_T46 HR0.out x5_1 p436 q436
      cases e436
      replace hx436_0 := (HB.out.cell (World.block_lt_of_cell? w _ hx436_0)).trans hx436_0
      replace hx436_1 := (HB.out.cell (World.block_lt_of_cell? w _ hx436_1)).trans hx436_1
      replace hx436_2 := (HB.out.cell (World.block_lt_of_cell? w _ hx436_2)).trans hx436_2
      replace hx436_3 := (HB.out.cell (World.block_lt_of_cell? w _ hx436_3)).trans hx436_3
      replace hx436_4 := (HB.out.cell (World.block_lt_of_cell? w _ hx436_4)).trans hx436_4
      replace hx436_5 := (HB.out.cell (World.block_lt_of_cell? w _ hx436_5)).trans hx436_5
      replace hx436_6 := (HB.out.cell (World.block_lt_of_cell? w _ hx436_6)).trans hx436_6
      replace hx436_7 := (HB.out.cell (World.block_lt_of_cell? w _ hx436_7)).trans hx436_7
      replace hx436_8 := (HB.out.cell (World.block_lt_of_cell? w _ hx436_8)).trans hx436_8
      replace hx436_9 := (HB.out.cell (World.block_lt_of_cell? w _ hx436_9)).trans hx436_9
      replace hx436_10 := (HB.out.cell (World.block_lt_of_cell? w _ hx436_10)).trans hx436_10
      replace hx436_11 := (HB.out.cell (World.block_lt_of_cell? w _ hx436_11)).trans hx436_11
      replace hx436_12 := (HB.out.cell (World.block_lt_of_cell? w _ hx436_12)).trans hx436_12
      replace hx436_13 := (HB.out.cell (World.block_lt_of_cell? w _ hx436_13)).trans hx436_13
      have HR436_13 := Aside0.mk hi436_13
      have HC436_13 := Aside0.mk hl436_13
      clear hi436_13 hl436_13
      replace p436 := eq_true p436
      replace q436 := eq_true q436
      go_wp2_with (first | ((with_reducible refine gate_callee (f := 27) rfl ?_); refine goesL_ (some 17) rfl rfl Try.func27 (by kernel_rfl) rfl #[.agg #[.int .i64 ((rd_T46 l0 x5_1).f0), .int .i64 ((rd_T46 l0 x5_1).f1), .int .i64 ((rd_T46 l0 x5_1).f2), .int .i64 ((rd_T46 l0 x5_1).f3.f0), .int .i64 ((rd_T46 l0 x5_1).f3.f1), .int .i64 ((rd_T46 l0 x5_1).f3.f2), .bool ((rd_T46 l0 x5_1).f3.f3.f0), .int .i64 ((rd_T46 l0 x5_1).f3.f3.f1), .int .i64 ((rd_T46 l0 x5_1).f4.f0), .int .i64 ((rd_T46 l0 x5_1).f4.f1), .int .i64 ((rd_T46 l0 x5_1).f4.f2), .bool ((rd_T46 l0 x5_1).f4.f3.f0), .int .i64 ((rd_T46 l0 x5_1).f4.f3.f1), .slice A436_13 ((rd_T46 l0 x5_1).f5).length c436_13], .int .u64 a1, .int .i64 0] rfl (by (try simp only [List.map_toArray, List.map_cons, List.map_nil]); first | done | rfl | (simp only [List.length_drop, List.length_take]; rfl)) ?_; (with_reducible refine (ihg_watersmeetref07_Is k1 (by have := HK1.out; omega) ((rd_T46 l0 x5_1).f0) ((rd_T46 l0 x5_1).f1) ((rd_T46 l0 x5_1).f2) ((rd_T46 l0 x5_1).f3.f0) ((rd_T46 l0 x5_1).f3.f1) ((rd_T46 l0 x5_1).f3.f2) ((rd_T46 l0 x5_1).f3.f3.f0) ((rd_T46 l0 x5_1).f3.f3.f1) ((rd_T46 l0 x5_1).f4.f0) ((rd_T46 l0 x5_1).f4.f1) ((rd_T46 l0 x5_1).f4.f2) ((rd_T46 l0 x5_1).f4.f3.f0) ((rd_T46 l0 x5_1).f4.f3.f1) _ _ ((rd_T46 l0 x5_1).f5) a1 0 true _ ?side1 ?side2 A5.out).mono ?_); (case side1 => repeat (first | exact (Kd.C_below HR436_13.out HB.out) | (with_reducible refine Kd.C_alloc ?_ _) | (with_reducible refine Kd.C_drewN ?_ _) | (with_reducible refine Kd.C_drew ?_))); (case side2 => exact HC436_13.out); rintro e w7 ⟨rfl, hb⟩; refine ⟨_, rfl, ?_⟩; have n0_ := Aside0.mk (below_step (by repeat (first | (with_reducible first | exact HB.out | apply below_alloc | apply pw_below_drewN | apply below_drew1) | exact HB.out)) hb); clear HB; have HB := n0_; clear n0_; (try clear hb); (try clear hb2); (try clear hk); (try clear hi)))
      go_roundg k1
      case measure => have := HK1.out; omega
      case rel => exact ⟨(wrap64 (x5_1 + 1)), (by first | rfl | (simp; done) | (simp [*]; done)), H', ⟨by have := HK1.out; omega⟩, ⟨by repeat (first | (with_reducible first | exact HB.out | apply below_alloc | apply pw_below_drewN | apply below_drew1) | exact HB.out)⟩⟩
     ·replace c6 := Bool.eq_false_iff.mpr c6
      subst c6
      have H1 : ((watersmeetref07_Is.f k1 ((rd_T46 l0 x5_1).f0) ((rd_T46 l0 x5_1).f1) ((rd_T46 l0 x5_1).f2) ((rd_T46 l0 x5_1).f3.f0) ((rd_T46 l0 x5_1).f3.f1) ((rd_T46 l0 x5_1).f3.f2) ((rd_T46 l0 x5_1).f3.f3.f0) ((rd_T46 l0 x5_1).f3.f3.f1) ((rd_T46 l0 x5_1).f4.f0) ((rd_T46 l0 x5_1).f4.f1) ((rd_T46 l0 x5_1).f4.f2) ((rd_T46 l0 x5_1).f4.f3.f0) ((rd_T46 l0 x5_1).f4.f3.f1) ((rd_T46 l0 x5_1).f5) a1 1).bind fun t439 => (if t439 = true then (watersmeetref07_all.l0 k1 l0 a1 (wrap64 (x5_1 + 1))) else ((watersmeetref07_Is.f k1 ((rd_T46 l0 x5_1).f0) ((rd_T46 l0 x5_1).f1) ((rd_T46 l0 x5_1).f2) ((rd_T46 l0 x5_1).f3.f0) ((rd_T46 l0 x5_1).f3.f1) ((rd_T46 l0 x5_1).f3.f2) ((rd_T46 l0 x5_1).f3.f3.f0) ((rd_T46 l0 x5_1).f3.f3.f1) ((rd_T46 l0 x5_1).f4.f0) ((rd_T46 l0 x5_1).f4.f1) ((rd_T46 l0 x5_1).f4.f2) ((rd_T46 l0 x5_1).f4.f3.f0) ((rd_T46 l0 x5_1).f4.f3.f1) ((rd_T46 l0 x5_1).f5) a1 2).bind fun t441 => (if t441 = true then (watersmeetref07_all.l0 k1 l0 a1 (wrap64 (x5_1 + 1))) else (some false))))) = some r := by rw [if_neg (show ¬ (false = true) by decide)] at H; exact H
      clear H
      have H := H1
      clear H1
      replace H := Option.bind_eq_some_iff.mp H
      obtain ⟨t439, A80, H⟩ := H
      replace H : (if t439 = true then (watersmeetref07_all.l0 k1 l0 a1 (wrap64 (x5_1 + 1))) else ((watersmeetref07_Is.f k1 ((rd_T46 l0 x5_1).f0) ((rd_T46 l0 x5_1).f1) ((rd_T46 l0 x5_1).f2) ((rd_T46 l0 x5_1).f3.f0) ((rd_T46 l0 x5_1).f3.f1) ((rd_T46 l0 x5_1).f3.f2) ((rd_T46 l0 x5_1).f3.f3.f0) ((rd_T46 l0 x5_1).f3.f3.f1) ((rd_T46 l0 x5_1).f4.f0) ((rd_T46 l0 x5_1).f4.f1) ((rd_T46 l0 x5_1).f4.f2) ((rd_T46 l0 x5_1).f4.f3.f0) ((rd_T46 l0 x5_1).f4.f3.f1) ((rd_T46 l0 x5_1).f5) a1 2).bind fun t441 => (if t441 = true then (watersmeetref07_all.l0 k1 l0 a1 (wrap64 (x5_1 + 1))) else (some false)))) = some r := H
      have A8 := Aside0.mk A80
      clear A80
      by_cases c9 : t439 = true
      ·subst c9
       have H1 : (watersmeetref07_all.l0 k1 l0 a1 (wrap64 (x5_1 + 1))) = some r := by rw [if_pos rfl] at H; exact H
       clear H
       have H := H1
       clear H1
       have H' := Aside0.mk H
       clear H
       have p436 : 0 ≤ (x5_1 : Int) := of_decide_eq_true (by first | (with_reducible assumption) | assumption)
       have q436 : x5_1 < (l0.length : Int) := of_decide_eq_true (by first | (with_reducible assumption) | assumption)
       obtain ⟨ad436, A436_13, c436_13, e436, hx436_0, hx436_1, hx436_2, hx436_3, hx436_4, hx436_5, hx436_6, hx436_7, hx436_8, hx436_9, hx436_10, hx436_11, hx436_12, hx436_13, hl436_13, hi436_13⟩ := at_T46 HR0.out x5_1 p436 q436
       cases e436
       replace hx436_0 := (HB.out.cell (World.block_lt_of_cell? w _ hx436_0)).trans hx436_0
       replace hx436_1 := (HB.out.cell (World.block_lt_of_cell? w _ hx436_1)).trans hx436_1
       replace hx436_2 := (HB.out.cell (World.block_lt_of_cell? w _ hx436_2)).trans hx436_2
       replace hx436_3 := (HB.out.cell (World.block_lt_of_cell? w _ hx436_3)).trans hx436_3
       replace hx436_4 := (HB.out.cell (World.block_lt_of_cell? w _ hx436_4)).trans hx436_4
       replace hx436_5 := (HB.out.cell (World.block_lt_of_cell? w _ hx436_5)).trans hx436_5
       replace hx436_6 := (HB.out.cell (World.block_lt_of_cell? w _ hx436_6)).trans hx436_6
       replace hx436_7 := (HB.out.cell (World.block_lt_of_cell? w _ hx436_7)).trans hx436_7
       replace hx436_8 := (HB.out.cell (World.block_lt_of_cell? w _ hx436_8)).trans hx436_8
       replace hx436_9 := (HB.out.cell (World.block_lt_of_cell? w _ hx436_9)).trans hx436_9
       replace hx436_10 := (HB.out.cell (World.block_lt_of_cell? w _ hx436_10)).trans hx436_10
       replace hx436_11 := (HB.out.cell (World.block_lt_of_cell? w _ hx436_11)).trans hx436_11
       replace hx436_12 := (HB.out.cell (World.block_lt_of_cell? w _ hx436_12)).trans hx436_12
       replace hx436_13 := (HB.out.cell (World.block_lt_of_cell? w _ hx436_13)).trans hx436_13
       have HR436_13 := Aside0.mk hi436_13
       have HC436_13 := Aside0.mk hl436_13
       clear hi436_13 hl436_13
       replace p436 := eq_true p436
       replace q436 := eq_true q436
       go_wp2_with (first | ((with_reducible refine gate_callee (f := 27) rfl ?_); refine goesL_ (some 17) rfl rfl Try.func27 (by kernel_rfl) rfl #[.agg #[.int .i64 ((rd_T46 l0 x5_1).f0), .int .i64 ((rd_T46 l0 x5_1).f1), .int .i64 ((rd_T46 l0 x5_1).f2), .int .i64 ((rd_T46 l0 x5_1).f3.f0), .int .i64 ((rd_T46 l0 x5_1).f3.f1), .int .i64 ((rd_T46 l0 x5_1).f3.f2), .bool ((rd_T46 l0 x5_1).f3.f3.f0), .int .i64 ((rd_T46 l0 x5_1).f3.f3.f1), .int .i64 ((rd_T46 l0 x5_1).f4.f0), .int .i64 ((rd_T46 l0 x5_1).f4.f1), .int .i64 ((rd_T46 l0 x5_1).f4.f2), .bool ((rd_T46 l0 x5_1).f4.f3.f0), .int .i64 ((rd_T46 l0 x5_1).f4.f3.f1), .slice A436_13 ((rd_T46 l0 x5_1).f5).length c436_13], .int .u64 a1, .int .i64 0] rfl (by (try simp only [List.map_toArray, List.map_cons, List.map_nil]); first | done | rfl | (simp only [List.length_drop, List.length_take]; rfl)) ?_; (with_reducible refine (ihg_watersmeetref07_Is k1 (by have := HK1.out; omega) ((rd_T46 l0 x5_1).f0) ((rd_T46 l0 x5_1).f1) ((rd_T46 l0 x5_1).f2) ((rd_T46 l0 x5_1).f3.f0) ((rd_T46 l0 x5_1).f3.f1) ((rd_T46 l0 x5_1).f3.f2) ((rd_T46 l0 x5_1).f3.f3.f0) ((rd_T46 l0 x5_1).f3.f3.f1) ((rd_T46 l0 x5_1).f4.f0) ((rd_T46 l0 x5_1).f4.f1) ((rd_T46 l0 x5_1).f4.f2) ((rd_T46 l0 x5_1).f4.f3.f0) ((rd_T46 l0 x5_1).f4.f3.f1) _ _ ((rd_T46 l0 x5_1).f5) a1 0 false _ ?side1 ?side2 A5.out).mono ?_); (case side1 => repeat (first | exact (Kd.C_below HR436_13.out HB.out) | (with_reducible refine Kd.C_alloc ?_ _) | (with_reducible refine Kd.C_drewN ?_ _) | (with_reducible refine Kd.C_drew ?_))); (case side2 => exact HC436_13.out); rintro e w10 ⟨rfl, hb⟩; refine ⟨_, rfl, ?_⟩; have n0_ := Aside0.mk (below_step (by repeat (first | (with_reducible first | exact HB.out | apply below_alloc | apply pw_below_drewN | apply below_drew1) | exact HB.out)) hb); clear HB; have HB := n0_; clear n0_; (try clear hb); (try clear hb2); (try clear hk); (try clear hi); have p438 : 0 ≤ (x5_1 : Int) := of_decide_eq_true (by first | (with_reducible assumption) | assumption); have q438 : x5_1 < (l0.length : Int) := of_decide_eq_true (by first | (with_reducible assumption) | assumption); obtain ⟨ad438, A438_13, c438_13, e438, hx438_0, hx438_1, hx438_2, hx438_3, hx438_4, hx438_5, hx438_6, hx438_7, hx438_8, hx438_9, hx438_10, hx438_11, hx438_12, hx438_13, hl438_13, hi438_13⟩ := at_T46 HR0.out x5_1 p438 q438; obtain rfl : ad436 = ad438 := (by injection e438); replace hx438_0 := (HB.out.cell (World.block_lt_of_cell? w _ hx438_0)).trans hx438_0; replace hx438_1 := (HB.out.cell (World.block_lt_of_cell? w _ hx438_1)).trans hx438_1; replace hx438_2 := (HB.out.cell (World.block_lt_of_cell? w _ hx438_2)).trans hx438_2; replace hx438_3 := (HB.out.cell (World.block_lt_of_cell? w _ hx438_3)).trans hx438_3; replace hx438_4 := (HB.out.cell (World.block_lt_of_cell? w _ hx438_4)).trans hx438_4; replace hx438_5 := (HB.out.cell (World.block_lt_of_cell? w _ hx438_5)).trans hx438_5; replace hx438_6 := (HB.out.cell (World.block_lt_of_cell? w _ hx438_6)).trans hx438_6; replace hx438_7 := (HB.out.cell (World.block_lt_of_cell? w _ hx438_7)).trans hx438_7; replace hx438_8 := (HB.out.cell (World.block_lt_of_cell? w _ hx438_8)).trans hx438_8; replace hx438_9 := (HB.out.cell (World.block_lt_of_cell? w _ hx438_9)).trans hx438_9; replace hx438_10 := (HB.out.cell (World.block_lt_of_cell? w _ hx438_10)).trans hx438_10; replace hx438_11 := (HB.out.cell (World.block_lt_of_cell? w _ hx438_11)).trans hx438_11; replace hx438_12 := (HB.out.cell (World.block_lt_of_cell? w _ hx438_12)).trans hx438_12; replace hx438_13 := (HB.out.cell (World.block_lt_of_cell? w _ hx438_13)).trans hx438_13; have HR438_13 := Aside0.mk hi438_13; have HC438_13 := Aside0.mk hl438_13; clear hi438_13 hl438_13; replace p438 := eq_true p438; replace q438 := eq_true q438) | (go_at_call 27; (with_reducible refine (ihg_watersmeetref07_Is k1 (by have := HK1.out; omega) ((rd_T46 l0 x5_1).f0) ((rd_T46 l0 x5_1).f1) ((rd_T46 l0 x5_1).f2) ((rd_T46 l0 x5_1).f3.f0) ((rd_T46 l0 x5_1).f3.f1) ((rd_T46 l0 x5_1).f3.f2) ((rd_T46 l0 x5_1).f3.f3.f0) ((rd_T46 l0 x5_1).f3.f3.f1) ((rd_T46 l0 x5_1).f4.f0) ((rd_T46 l0 x5_1).f4.f1) ((rd_T46 l0 x5_1).f4.f2) ((rd_T46 l0 x5_1).f4.f3.f0) ((rd_T46 l0 x5_1).f4.f3.f1) _ _ ((rd_T46 l0 x5_1).f5) a1 1 true _ ?side1 ?side2 A8.out).mono ?_); (case side1 => repeat (first | exact (Kd.C_below HR438_13.out HB.out) | (with_reducible refine Kd.C_alloc ?_ _) | (with_reducible refine Kd.C_drewN ?_ _) | (with_reducible refine Kd.C_drew ?_))); (case side2 => exact HC438_13.out); rintro e w11 ⟨rfl, hb⟩; have n0_ := Aside0.mk (below_step (by repeat (first | (with_reducible first | exact HB.out | apply below_alloc | apply pw_below_drewN | apply below_drew1) | exact HB.out)) hb); clear HB; have HB := n0_; clear n0_; (try clear hb); (try clear hb2); (try clear hk); (try clear hi)))
       go_roundg k1
       case measure => have := HK1.out; omega
       case rel => exact ⟨(wrap64 (x5_1 + 1)), (by first | rfl | (simp; done) | (simp [*]; done)), H', ⟨by have := HK1.out; omega⟩, ⟨by repeat (first | (with_reducible first | exact HB.out | apply below_alloc | apply pw_below_drewN | apply below_drew1) | exact HB.out)⟩⟩
      ·replace c9 := Bool.eq_false_iff.mpr c9
       subst c9
       have H1 : ((watersmeetref07_Is.f k1 ((rd_T46 l0 x5_1).f0) ((rd_T46 l0 x5_1).f1) ((rd_T46 l0 x5_1).f2) ((rd_T46 l0 x5_1).f3.f0) ((rd_T46 l0 x5_1).f3.f1) ((rd_T46 l0 x5_1).f3.f2) ((rd_T46 l0 x5_1).f3.f3.f0) ((rd_T46 l0 x5_1).f3.f3.f1) ((rd_T46 l0 x5_1).f4.f0) ((rd_T46 l0 x5_1).f4.f1) ((rd_T46 l0 x5_1).f4.f2) ((rd_T46 l0 x5_1).f4.f3.f0) ((rd_T46 l0 x5_1).f4.f3.f1) ((rd_T46 l0 x5_1).f5) a1 2).bind fun t441 => (if t441 = true then (watersmeetref07_all.l0 k1 l0 a1 (wrap64 (x5_1 + 1))) else (some false))) = some r := by rw [if_neg (show ¬ (false = true) by decide)] at H; exact H
       clear H
       have H := H1
       clear H1
       replace H := Option.bind_eq_some_iff.mp H
       obtain ⟨t441, A120, H⟩ := H
       replace H : (if t441 = true then (watersmeetref07_all.l0 k1 l0 a1 (wrap64 (x5_1 + 1))) else (some false)) = some r := H
       have A12 := Aside0.mk A120
       clear A120
       by_cases c13 : t441 = true
       ·subst c13
        have H1 : (watersmeetref07_all.l0 k1 l0 a1 (wrap64 (x5_1 + 1))) = some r := by rw [if_pos rfl] at H; exact H
        clear H
        have H := H1
        clear H1
        have H' := Aside0.mk H
        clear H
        have p436 : 0 ≤ (x5_1 : Int) := of_decide_eq_true (by first | (with_reducible assumption) | assumption)
        have q436 : x5_1 < (l0.length : Int) := of_decide_eq_true (by first | (with_reducible assumption) | assumption)
        obtain ⟨ad436, A436_13, c436_13, e436, hx436_0, hx436_1, hx436_2, hx436_3, hx436_4, hx436_5, hx436_6, hx436_7, hx436_8, hx436_9, hx436_10, hx436_11, hx436_12, hx436_13, hl436_13, hi436_13⟩ := at_T46 HR0.out x5_1 p436 q436
        cases e436
        replace hx436_0 := (HB.out.cell (World.block_lt_of_cell? w _ hx436_0)).trans hx436_0
        replace hx436_1 := (HB.out.cell (World.block_lt_of_cell? w _ hx436_1)).trans hx436_1
        replace hx436_2 := (HB.out.cell (World.block_lt_of_cell? w _ hx436_2)).trans hx436_2
        replace hx436_3 := (HB.out.cell (World.block_lt_of_cell? w _ hx436_3)).trans hx436_3
        replace hx436_4 := (HB.out.cell (World.block_lt_of_cell? w _ hx436_4)).trans hx436_4
        replace hx436_5 := (HB.out.cell (World.block_lt_of_cell? w _ hx436_5)).trans hx436_5
        replace hx436_6 := (HB.out.cell (World.block_lt_of_cell? w _ hx436_6)).trans hx436_6
        replace hx436_7 := (HB.out.cell (World.block_lt_of_cell? w _ hx436_7)).trans hx436_7
        replace hx436_8 := (HB.out.cell (World.block_lt_of_cell? w _ hx436_8)).trans hx436_8
        replace hx436_9 := (HB.out.cell (World.block_lt_of_cell? w _ hx436_9)).trans hx436_9
        replace hx436_10 := (HB.out.cell (World.block_lt_of_cell? w _ hx436_10)).trans hx436_10
        replace hx436_11 := (HB.out.cell (World.block_lt_of_cell? w _ hx436_11)).trans hx436_11
        replace hx436_12 := (HB.out.cell (World.block_lt_of_cell? w _ hx436_12)).trans hx436_12
        replace hx436_13 := (HB.out.cell (World.block_lt_of_cell? w _ hx436_13)).trans hx436_13
        have HR436_13 := Aside0.mk hi436_13
        have HC436_13 := Aside0.mk hl436_13
        clear hi436_13 hl436_13
        replace p436 := eq_true p436
        replace q436 := eq_true q436
        go_wp2_with (first | ((with_reducible refine gate_callee (f := 27) rfl ?_); refine goesL_ (some 17) rfl rfl Try.func27 (by kernel_rfl) rfl #[.agg #[.int .i64 ((rd_T46 l0 x5_1).f0), .int .i64 ((rd_T46 l0 x5_1).f1), .int .i64 ((rd_T46 l0 x5_1).f2), .int .i64 ((rd_T46 l0 x5_1).f3.f0), .int .i64 ((rd_T46 l0 x5_1).f3.f1), .int .i64 ((rd_T46 l0 x5_1).f3.f2), .bool ((rd_T46 l0 x5_1).f3.f3.f0), .int .i64 ((rd_T46 l0 x5_1).f3.f3.f1), .int .i64 ((rd_T46 l0 x5_1).f4.f0), .int .i64 ((rd_T46 l0 x5_1).f4.f1), .int .i64 ((rd_T46 l0 x5_1).f4.f2), .bool ((rd_T46 l0 x5_1).f4.f3.f0), .int .i64 ((rd_T46 l0 x5_1).f4.f3.f1), .slice A436_13 ((rd_T46 l0 x5_1).f5).length c436_13], .int .u64 a1, .int .i64 0] rfl (by (try simp only [List.map_toArray, List.map_cons, List.map_nil]); first | done | rfl | (simp only [List.length_drop, List.length_take]; rfl)) ?_; (with_reducible refine (ihg_watersmeetref07_Is k1 (by have := HK1.out; omega) ((rd_T46 l0 x5_1).f0) ((rd_T46 l0 x5_1).f1) ((rd_T46 l0 x5_1).f2) ((rd_T46 l0 x5_1).f3.f0) ((rd_T46 l0 x5_1).f3.f1) ((rd_T46 l0 x5_1).f3.f2) ((rd_T46 l0 x5_1).f3.f3.f0) ((rd_T46 l0 x5_1).f3.f3.f1) ((rd_T46 l0 x5_1).f4.f0) ((rd_T46 l0 x5_1).f4.f1) ((rd_T46 l0 x5_1).f4.f2) ((rd_T46 l0 x5_1).f4.f3.f0) ((rd_T46 l0 x5_1).f4.f3.f1) _ _ ((rd_T46 l0 x5_1).f5) a1 0 false _ ?side1 ?side2 A5.out).mono ?_); (case side1 => repeat (first | exact (Kd.C_below HR436_13.out HB.out) | (with_reducible refine Kd.C_alloc ?_ _) | (with_reducible refine Kd.C_drewN ?_ _) | (with_reducible refine Kd.C_drew ?_))); (case side2 => exact HC436_13.out); rintro e w14 ⟨rfl, hb⟩; refine ⟨_, rfl, ?_⟩; have n0_ := Aside0.mk (below_step (by repeat (first | (with_reducible first | exact HB.out | apply below_alloc | apply pw_below_drewN | apply below_drew1) | exact HB.out)) hb); clear HB; have HB := n0_; clear n0_; (try clear hb); (try clear hb2); (try clear hk); (try clear hi); have p438 : 0 ≤ (x5_1 : Int) := of_decide_eq_true (by first | (with_reducible assumption) | assumption); have q438 : x5_1 < (l0.length : Int) := of_decide_eq_true (by first | (with_reducible assumption) | assumption); obtain ⟨ad438, A438_13, c438_13, e438, hx438_0, hx438_1, hx438_2, hx438_3, hx438_4, hx438_5, hx438_6, hx438_7, hx438_8, hx438_9, hx438_10, hx438_11, hx438_12, hx438_13, hl438_13, hi438_13⟩ := at_T46 HR0.out x5_1 p438 q438; obtain rfl : ad436 = ad438 := (by injection e438); replace hx438_0 := (HB.out.cell (World.block_lt_of_cell? w _ hx438_0)).trans hx438_0; replace hx438_1 := (HB.out.cell (World.block_lt_of_cell? w _ hx438_1)).trans hx438_1; replace hx438_2 := (HB.out.cell (World.block_lt_of_cell? w _ hx438_2)).trans hx438_2; replace hx438_3 := (HB.out.cell (World.block_lt_of_cell? w _ hx438_3)).trans hx438_3; replace hx438_4 := (HB.out.cell (World.block_lt_of_cell? w _ hx438_4)).trans hx438_4; replace hx438_5 := (HB.out.cell (World.block_lt_of_cell? w _ hx438_5)).trans hx438_5; replace hx438_6 := (HB.out.cell (World.block_lt_of_cell? w _ hx438_6)).trans hx438_6; replace hx438_7 := (HB.out.cell (World.block_lt_of_cell? w _ hx438_7)).trans hx438_7; replace hx438_8 := (HB.out.cell (World.block_lt_of_cell? w _ hx438_8)).trans hx438_8; replace hx438_9 := (HB.out.cell (World.block_lt_of_cell? w _ hx438_9)).trans hx438_9; replace hx438_10 := (HB.out.cell (World.block_lt_of_cell? w _ hx438_10)).trans hx438_10; replace hx438_11 := (HB.out.cell (World.block_lt_of_cell? w _ hx438_11)).trans hx438_11; replace hx438_12 := (HB.out.cell (World.block_lt_of_cell? w _ hx438_12)).trans hx438_12; replace hx438_13 := (HB.out.cell (World.block_lt_of_cell? w _ hx438_13)).trans hx438_13; have HR438_13 := Aside0.mk hi438_13; have HC438_13 := Aside0.mk hl438_13; clear hi438_13 hl438_13; replace p438 := eq_true p438; replace q438 := eq_true q438) | (go_at_call 27; (with_reducible refine (ihg_watersmeetref07_Is k1 (by have := HK1.out; omega) ((rd_T46 l0 x5_1).f0) ((rd_T46 l0 x5_1).f1) ((rd_T46 l0 x5_1).f2) ((rd_T46 l0 x5_1).f3.f0) ((rd_T46 l0 x5_1).f3.f1) ((rd_T46 l0 x5_1).f3.f2) ((rd_T46 l0 x5_1).f3.f3.f0) ((rd_T46 l0 x5_1).f3.f3.f1) ((rd_T46 l0 x5_1).f4.f0) ((rd_T46 l0 x5_1).f4.f1) ((rd_T46 l0 x5_1).f4.f2) ((rd_T46 l0 x5_1).f4.f3.f0) ((rd_T46 l0 x5_1).f4.f3.f1) _ _ ((rd_T46 l0 x5_1).f5) a1 1 false _ ?side1 ?side2 A8.out).mono ?_); (case side1 => repeat (first | exact (Kd.C_below HR438_13.out HB.out) | (with_reducible refine Kd.C_alloc ?_ _) | (with_reducible refine Kd.C_drewN ?_ _) | (with_reducible refine Kd.C_drew ?_))); (case side2 => exact HC438_13.out); rintro e w15 ⟨rfl, hb⟩; have n0_ := Aside0.mk (below_step (by repeat (first | (with_reducible first | exact HB.out | apply below_alloc | apply pw_below_drewN | apply below_drew1) | exact HB.out)) hb); clear HB; have HB := n0_; clear n0_; (try clear hb); (try clear hb2); (try clear hk); (try clear hi); have p440 : 0 ≤ (x5_1 : Int) := of_decide_eq_true (by first | (with_reducible assumption) | assumption); have q440 : x5_1 < (l0.length : Int) := of_decide_eq_true (by first | (with_reducible assumption) | assumption); obtain ⟨ad440, A440_13, c440_13, e440, hx440_0, hx440_1, hx440_2, hx440_3, hx440_4, hx440_5, hx440_6, hx440_7, hx440_8, hx440_9, hx440_10, hx440_11, hx440_12, hx440_13, hl440_13, hi440_13⟩ := at_T46 HR0.out x5_1 p440 q440; obtain rfl : ad436 = ad440 := (by injection e440); replace hx440_0 := (HB.out.cell (World.block_lt_of_cell? w _ hx440_0)).trans hx440_0; replace hx440_1 := (HB.out.cell (World.block_lt_of_cell? w _ hx440_1)).trans hx440_1; replace hx440_2 := (HB.out.cell (World.block_lt_of_cell? w _ hx440_2)).trans hx440_2; replace hx440_3 := (HB.out.cell (World.block_lt_of_cell? w _ hx440_3)).trans hx440_3; replace hx440_4 := (HB.out.cell (World.block_lt_of_cell? w _ hx440_4)).trans hx440_4; replace hx440_5 := (HB.out.cell (World.block_lt_of_cell? w _ hx440_5)).trans hx440_5; replace hx440_6 := (HB.out.cell (World.block_lt_of_cell? w _ hx440_6)).trans hx440_6; replace hx440_7 := (HB.out.cell (World.block_lt_of_cell? w _ hx440_7)).trans hx440_7; replace hx440_8 := (HB.out.cell (World.block_lt_of_cell? w _ hx440_8)).trans hx440_8; replace hx440_9 := (HB.out.cell (World.block_lt_of_cell? w _ hx440_9)).trans hx440_9; replace hx440_10 := (HB.out.cell (World.block_lt_of_cell? w _ hx440_10)).trans hx440_10; replace hx440_11 := (HB.out.cell (World.block_lt_of_cell? w _ hx440_11)).trans hx440_11; replace hx440_12 := (HB.out.cell (World.block_lt_of_cell? w _ hx440_12)).trans hx440_12; replace hx440_13 := (HB.out.cell (World.block_lt_of_cell? w _ hx440_13)).trans hx440_13; have HR440_13 := Aside0.mk hi440_13; have HC440_13 := Aside0.mk hl440_13; clear hi440_13 hl440_13; replace p440 := eq_true p440; replace q440 := eq_true q440) | (go_at_call 27; (with_reducible refine (ihg_watersmeetref07_Is k1 (by have := HK1.out; omega) ((rd_T46 l0 x5_1).f0) ((rd_T46 l0 x5_1).f1) ((rd_T46 l0 x5_1).f2) ((rd_T46 l0 x5_1).f3.f0) ((rd_T46 l0 x5_1).f3.f1) ((rd_T46 l0 x5_1).f3.f2) ((rd_T46 l0 x5_1).f3.f3.f0) ((rd_T46 l0 x5_1).f3.f3.f1) ((rd_T46 l0 x5_1).f4.f0) ((rd_T46 l0 x5_1).f4.f1) ((rd_T46 l0 x5_1).f4.f2) ((rd_T46 l0 x5_1).f4.f3.f0) ((rd_T46 l0 x5_1).f4.f3.f1) _ _ ((rd_T46 l0 x5_1).f5) a1 2 true _ ?side1 ?side2 A12.out).mono ?_); (case side1 => repeat (first | exact (Kd.C_below HR440_13.out HB.out) | (with_reducible refine Kd.C_alloc ?_ _) | (with_reducible refine Kd.C_drewN ?_ _) | (with_reducible refine Kd.C_drew ?_))); (case side2 => exact HC440_13.out); rintro e w16 ⟨rfl, hb⟩; have n0_ := Aside0.mk (below_step (by repeat (first | (with_reducible first | exact HB.out | apply below_alloc | apply pw_below_drewN | apply below_drew1) | exact HB.out)) hb); clear HB; have HB := n0_; clear n0_; (try clear hb); (try clear hb2); (try clear hk); (try clear hi)))
        go_roundg k1
        case measure => have := HK1.out; omega
        case rel => exact ⟨(wrap64 (x5_1 + 1)), (by first | rfl | (simp; done) | (simp [*]; done)), H', ⟨by have := HK1.out; omega⟩, ⟨by repeat (first | (with_reducible first | exact HB.out | apply below_alloc | apply pw_below_drewN | apply below_drew1) | exact HB.out)⟩⟩
       ·replace c13 := Bool.eq_false_iff.mpr c13
        subst c13
        have H1 : (some false) = some r := by rw [if_neg (show ¬ (false = true) by decide)] at H; exact H
        clear H
        have H := H1
        clear H1
        obtain rfl := Option.some.inj H
        have p436 : 0 ≤ (x5_1 : Int) := of_decide_eq_true (by first | (with_reducible assumption) | assumption)
        have q436 : x5_1 < (l0.length : Int) := of_decide_eq_true (by first | (with_reducible assumption) | assumption)
        obtain ⟨ad436, A436_13, c436_13, e436, hx436_0, hx436_1, hx436_2, hx436_3, hx436_4, hx436_5, hx436_6, hx436_7, hx436_8, hx436_9, hx436_10, hx436_11, hx436_12, hx436_13, hl436_13, hi436_13⟩ := at_T46 HR0.out x5_1 p436 q436
        cases e436
        replace hx436_0 := (HB.out.cell (World.block_lt_of_cell? w _ hx436_0)).trans hx436_0
        replace hx436_1 := (HB.out.cell (World.block_lt_of_cell? w _ hx436_1)).trans hx436_1
        replace hx436_2 := (HB.out.cell (World.block_lt_of_cell? w _ hx436_2)).trans hx436_2
        replace hx436_3 := (HB.out.cell (World.block_lt_of_cell? w _ hx436_3)).trans hx436_3
        replace hx436_4 := (HB.out.cell (World.block_lt_of_cell? w _ hx436_4)).trans hx436_4
        replace hx436_5 := (HB.out.cell (World.block_lt_of_cell? w _ hx436_5)).trans hx436_5
        replace hx436_6 := (HB.out.cell (World.block_lt_of_cell? w _ hx436_6)).trans hx436_6
        replace hx436_7 := (HB.out.cell (World.block_lt_of_cell? w _ hx436_7)).trans hx436_7
        replace hx436_8 := (HB.out.cell (World.block_lt_of_cell? w _ hx436_8)).trans hx436_8
        replace hx436_9 := (HB.out.cell (World.block_lt_of_cell? w _ hx436_9)).trans hx436_9
        replace hx436_10 := (HB.out.cell (World.block_lt_of_cell? w _ hx436_10)).trans hx436_10
        replace hx436_11 := (HB.out.cell (World.block_lt_of_cell? w _ hx436_11)).trans hx436_11
        replace hx436_12 := (HB.out.cell (World.block_lt_of_cell? w _ hx436_12)).trans hx436_12
        replace hx436_13 := (HB.out.cell (World.block_lt_of_cell? w _ hx436_13)).trans hx436_13
        have HR436_13 := Aside0.mk hi436_13
        have HC436_13 := Aside0.mk hl436_13
        clear hi436_13 hl436_13
        replace p436 := eq_true p436
        replace q436 := eq_true q436
        go_wp2_with (first | ((with_reducible refine gate_callee (f := 27) rfl ?_); refine goesL_ (some 17) rfl rfl Try.func27 (by kernel_rfl) rfl #[.agg #[.int .i64 ((rd_T46 l0 x5_1).f0), .int .i64 ((rd_T46 l0 x5_1).f1), .int .i64 ((rd_T46 l0 x5_1).f2), .int .i64 ((rd_T46 l0 x5_1).f3.f0), .int .i64 ((rd_T46 l0 x5_1).f3.f1), .int .i64 ((rd_T46 l0 x5_1).f3.f2), .bool ((rd_T46 l0 x5_1).f3.f3.f0), .int .i64 ((rd_T46 l0 x5_1).f3.f3.f1), .int .i64 ((rd_T46 l0 x5_1).f4.f0), .int .i64 ((rd_T46 l0 x5_1).f4.f1), .int .i64 ((rd_T46 l0 x5_1).f4.f2), .bool ((rd_T46 l0 x5_1).f4.f3.f0), .int .i64 ((rd_T46 l0 x5_1).f4.f3.f1), .slice A436_13 ((rd_T46 l0 x5_1).f5).length c436_13], .int .u64 a1, .int .i64 0] rfl (by (try simp only [List.map_toArray, List.map_cons, List.map_nil]); first | done | rfl | (simp only [List.length_drop, List.length_take]; rfl)) ?_; (with_reducible refine (ihg_watersmeetref07_Is k1 (by have := HK1.out; omega) ((rd_T46 l0 x5_1).f0) ((rd_T46 l0 x5_1).f1) ((rd_T46 l0 x5_1).f2) ((rd_T46 l0 x5_1).f3.f0) ((rd_T46 l0 x5_1).f3.f1) ((rd_T46 l0 x5_1).f3.f2) ((rd_T46 l0 x5_1).f3.f3.f0) ((rd_T46 l0 x5_1).f3.f3.f1) ((rd_T46 l0 x5_1).f4.f0) ((rd_T46 l0 x5_1).f4.f1) ((rd_T46 l0 x5_1).f4.f2) ((rd_T46 l0 x5_1).f4.f3.f0) ((rd_T46 l0 x5_1).f4.f3.f1) _ _ ((rd_T46 l0 x5_1).f5) a1 0 false _ ?side1 ?side2 A5.out).mono ?_); (case side1 => repeat (first | exact (Kd.C_below HR436_13.out HB.out) | (with_reducible refine Kd.C_alloc ?_ _) | (with_reducible refine Kd.C_drewN ?_ _) | (with_reducible refine Kd.C_drew ?_))); (case side2 => exact HC436_13.out); rintro e w17 ⟨rfl, hb⟩; refine ⟨_, rfl, ?_⟩; have n0_ := Aside0.mk (below_step (by repeat (first | (with_reducible first | exact HB.out | apply below_alloc | apply pw_below_drewN | apply below_drew1) | exact HB.out)) hb); clear HB; have HB := n0_; clear n0_; (try clear hb); (try clear hb2); (try clear hk); (try clear hi); have p438 : 0 ≤ (x5_1 : Int) := of_decide_eq_true (by first | (with_reducible assumption) | assumption); have q438 : x5_1 < (l0.length : Int) := of_decide_eq_true (by first | (with_reducible assumption) | assumption); obtain ⟨ad438, A438_13, c438_13, e438, hx438_0, hx438_1, hx438_2, hx438_3, hx438_4, hx438_5, hx438_6, hx438_7, hx438_8, hx438_9, hx438_10, hx438_11, hx438_12, hx438_13, hl438_13, hi438_13⟩ := at_T46 HR0.out x5_1 p438 q438; obtain rfl : ad436 = ad438 := (by injection e438); replace hx438_0 := (HB.out.cell (World.block_lt_of_cell? w _ hx438_0)).trans hx438_0; replace hx438_1 := (HB.out.cell (World.block_lt_of_cell? w _ hx438_1)).trans hx438_1; replace hx438_2 := (HB.out.cell (World.block_lt_of_cell? w _ hx438_2)).trans hx438_2; replace hx438_3 := (HB.out.cell (World.block_lt_of_cell? w _ hx438_3)).trans hx438_3; replace hx438_4 := (HB.out.cell (World.block_lt_of_cell? w _ hx438_4)).trans hx438_4; replace hx438_5 := (HB.out.cell (World.block_lt_of_cell? w _ hx438_5)).trans hx438_5; replace hx438_6 := (HB.out.cell (World.block_lt_of_cell? w _ hx438_6)).trans hx438_6; replace hx438_7 := (HB.out.cell (World.block_lt_of_cell? w _ hx438_7)).trans hx438_7; replace hx438_8 := (HB.out.cell (World.block_lt_of_cell? w _ hx438_8)).trans hx438_8; replace hx438_9 := (HB.out.cell (World.block_lt_of_cell? w _ hx438_9)).trans hx438_9; replace hx438_10 := (HB.out.cell (World.block_lt_of_cell? w _ hx438_10)).trans hx438_10; replace hx438_11 := (HB.out.cell (World.block_lt_of_cell? w _ hx438_11)).trans hx438_11; replace hx438_12 := (HB.out.cell (World.block_lt_of_cell? w _ hx438_12)).trans hx438_12; replace hx438_13 := (HB.out.cell (World.block_lt_of_cell? w _ hx438_13)).trans hx438_13; have HR438_13 := Aside0.mk hi438_13; have HC438_13 := Aside0.mk hl438_13; clear hi438_13 hl438_13; replace p438 := eq_true p438; replace q438 := eq_true q438) | (go_at_call 27; (with_reducible refine (ihg_watersmeetref07_Is k1 (by have := HK1.out; omega) ((rd_T46 l0 x5_1).f0) ((rd_T46 l0 x5_1).f1) ((rd_T46 l0 x5_1).f2) ((rd_T46 l0 x5_1).f3.f0) ((rd_T46 l0 x5_1).f3.f1) ((rd_T46 l0 x5_1).f3.f2) ((rd_T46 l0 x5_1).f3.f3.f0) ((rd_T46 l0 x5_1).f3.f3.f1) ((rd_T46 l0 x5_1).f4.f0) ((rd_T46 l0 x5_1).f4.f1) ((rd_T46 l0 x5_1).f4.f2) ((rd_T46 l0 x5_1).f4.f3.f0) ((rd_T46 l0 x5_1).f4.f3.f1) _ _ ((rd_T46 l0 x5_1).f5) a1 1 false _ ?side1 ?side2 A8.out).mono ?_); (case side1 => repeat (first | exact (Kd.C_below HR438_13.out HB.out) | (with_reducible refine Kd.C_alloc ?_ _) | (with_reducible refine Kd.C_drewN ?_ _) | (with_reducible refine Kd.C_drew ?_))); (case side2 => exact HC438_13.out); rintro e w18 ⟨rfl, hb⟩; have n0_ := Aside0.mk (below_step (by repeat (first | (with_reducible first | exact HB.out | apply below_alloc | apply pw_below_drewN | apply below_drew1) | exact HB.out)) hb); clear HB; have HB := n0_; clear n0_; (try clear hb); (try clear hb2); (try clear hk); (try clear hi); have p440 : 0 ≤ (x5_1 : Int) := of_decide_eq_true (by first | (with_reducible assumption) | assumption); have q440 : x5_1 < (l0.length : Int) := of_decide_eq_true (by first | (with_reducible assumption) | assumption); obtain ⟨ad440, A440_13, c440_13, e440, hx440_0, hx440_1, hx440_2, hx440_3, hx440_4, hx440_5, hx440_6, hx440_7, hx440_8, hx440_9, hx440_10, hx440_11, hx440_12, hx440_13, hl440_13, hi440_13⟩ := at_T46 HR0.out x5_1 p440 q440; obtain rfl : ad436 = ad440 := (by injection e440); replace hx440_0 := (HB.out.cell (World.block_lt_of_cell? w _ hx440_0)).trans hx440_0; replace hx440_1 := (HB.out.cell (World.block_lt_of_cell? w _ hx440_1)).trans hx440_1; replace hx440_2 := (HB.out.cell (World.block_lt_of_cell? w _ hx440_2)).trans hx440_2; replace hx440_3 := (HB.out.cell (World.block_lt_of_cell? w _ hx440_3)).trans hx440_3; replace hx440_4 := (HB.out.cell (World.block_lt_of_cell? w _ hx440_4)).trans hx440_4; replace hx440_5 := (HB.out.cell (World.block_lt_of_cell? w _ hx440_5)).trans hx440_5; replace hx440_6 := (HB.out.cell (World.block_lt_of_cell? w _ hx440_6)).trans hx440_6; replace hx440_7 := (HB.out.cell (World.block_lt_of_cell? w _ hx440_7)).trans hx440_7; replace hx440_8 := (HB.out.cell (World.block_lt_of_cell? w _ hx440_8)).trans hx440_8; replace hx440_9 := (HB.out.cell (World.block_lt_of_cell? w _ hx440_9)).trans hx440_9; replace hx440_10 := (HB.out.cell (World.block_lt_of_cell? w _ hx440_10)).trans hx440_10; replace hx440_11 := (HB.out.cell (World.block_lt_of_cell? w _ hx440_11)).trans hx440_11; replace hx440_12 := (HB.out.cell (World.block_lt_of_cell? w _ hx440_12)).trans hx440_12; replace hx440_13 := (HB.out.cell (World.block_lt_of_cell? w _ hx440_13)).trans hx440_13; have HR440_13 := Aside0.mk hi440_13; have HC440_13 := Aside0.mk hl440_13; clear hi440_13 hl440_13; replace p440 := eq_true p440; replace q440 := eq_true q440) | (go_at_call 27; (with_reducible refine (ihg_watersmeetref07_Is k1 (by have := HK1.out; omega) ((rd_T46 l0 x5_1).f0) ((rd_T46 l0 x5_1).f1) ((rd_T46 l0 x5_1).f2) ((rd_T46 l0 x5_1).f3.f0) ((rd_T46 l0 x5_1).f3.f1) ((rd_T46 l0 x5_1).f3.f2) ((rd_T46 l0 x5_1).f3.f3.f0) ((rd_T46 l0 x5_1).f3.f3.f1) ((rd_T46 l0 x5_1).f4.f0) ((rd_T46 l0 x5_1).f4.f1) ((rd_T46 l0 x5_1).f4.f2) ((rd_T46 l0 x5_1).f4.f3.f0) ((rd_T46 l0 x5_1).f4.f3.f1) _ _ ((rd_T46 l0 x5_1).f5) a1 2 false _ ?side1 ?side2 A12.out).mono ?_); (case side1 => repeat (first | exact (Kd.C_below HR440_13.out HB.out) | (with_reducible refine Kd.C_alloc ?_ _) | (with_reducible refine Kd.C_drewN ?_ _) | (with_reducible refine Kd.C_drew ?_))); (case side2 => exact HC440_13.out); rintro e w19 ⟨rfl, hb⟩; have n0_ := Aside0.mk (below_step (by repeat (first | (with_reducible first | exact HB.out | apply below_alloc | apply pw_below_drewN | apply below_drew1) | exact HB.out)) hb); clear HB; have HB := n0_; clear n0_; (try clear hb); (try clear hb2); (try clear hk); (try clear hi)))
        go_ret
        exact ⟨by first | rfl | (simp [errW_none, errW_some] <;> rfl) | (simp [*, errW_none, errW_some] <;> rfl), by repeat (first | (with_reducible first | exact HB.out | apply below_alloc | apply pw_below_drewN | apply below_drew1) | exact HB.out)⟩
    ·rw [if_neg c4] at H
     exact absurd H (by simp)
   ·rw [if_neg c3] at H
    have c3b0 : decide (x5_1 < (l0.length : Int)) = false := decide_eq_false c3
    clear c3
    obtain rfl := Option.some.inj H
    go_wp2
    go_ret
    exact ⟨by first | rfl | (simp [errW_none, errW_some] <;> rfl) | (simp [*, errW_none, errW_some] <;> rfl), by repeat (first | (with_reducible first | exact HB.out | apply below_alloc | apply pw_below_drewN | apply below_drew1) | exact HB.out)⟩
/-! ### watersmeetref07_Is: function 27 -/
set_option maxHeartbeats 8000000 in
set_option maxRecDepth 100000 in
theorem watersmeetref07_Is.calls_of (k : Nat) (ih : ∀ j_, j_ < k → watersmeetref07_Is.Says j_) (ihg_watersmeetref07_all : ∀ j_, j_ < k → watersmeetref07_all.Says j_) (ihg_watersmeetref07_many : ∀ j_, j_ < k → watersmeetref07_many.Says j_) (ihg_watersmeetref07_every : ∀ j_, j_ < k → watersmeetref07_every.Says j_) (ihg_watersmeetref07_some : ∀ j_, j_ < k → watersmeetref07_some.Says j_) : watersmeetref07_Is.Says k := by
 unfold watersmeetref07_Is.Says
 intro a0_0 a0_1 a0_2 a0_3 a0_4 a0_5 a0_6 a0_7 a0_8 a0_9 a0_10 a0_11 a0_12 A0_13 c0_13 l0_13 a1 a2 r w hr0_13 hc0_13 h
 cases k with
 | zero => exact absurd h (by simp [watersmeetref07_Is.f])
 | succ k =>
 simp only [watersmeetref07_Is.f] at h
 have hu46 := Try.underlying46
 have hu44 := Try.underlying44
 have hu42 := Try.underlying42
 have HR0_13 := Aside0.mk hr0_13
 have HC0_13 := Aside0.mk hc0_13
 clear hr0_13 hc0_13
 have HB := Aside0.mk (Below.refl w.heap.size w)
 have H : (if a0_0 = 1 then (if a2 = a0_1 then (some true) else (if a2 = 1 then (if a0_1 < 0 then (some true) else (some (decide (a0_1 > 2)))) else (some false))) else (if a0_0 = 2 then (if a0_2 < 1 then (some (a2 == 1)) else (if a0_2 > 6 then (some (a2 == 1)) else ((watersmeetref07_sure.f k a0_3 a0_4 a0_5 a0_6 a0_7 a1).bind fun t443 => (if t443 = true then (some (a2 == 1)) else ((watersmeetref07_sure.f k a0_8 a0_9 a0_10 a0_11 a0_12 a1).bind fun t444 => (if t444 = true then (some (a2 == 1)) else (if a0_3 = 1 then (some true) else (if a0_8 = 1 then (some true) else ((watersmeetref03_Compare.f k a0_2 a0_6 a0_7 a0_11 a0_12).bind fun t445 => (some (a2 == t445))))))))))) else (if a0_0 = 3 then ((watersmeetref07_sure.f k a0_3 a0_4 a0_5 a0_6 a0_7 a1).bind fun t446 => (if t446 = true then (some (a2 == 2)) else (if a2 = 0 then (some true) else (if a2 = 2 then (some (a0_3 == 1)) else (some false))))) else (if a0_0 = 4 then ((watersmeetref07_many.f k l0_13 a1 a2 2).bind fun t447 => (some t447)) else (if a0_0 = 5 then ((watersmeetref07_many.f k l0_13 a1 a2 0).bind fun t448 => (some t448)) else (if a0_0 = 6 then (if (l0_13.length : Int) > 0 then (if 0 < (l0_13.length : Int) then ((watersmeetref07_Is.f k ((rd_T46 l0_13 0).f0) ((rd_T46 l0_13 0).f1) ((rd_T46 l0_13 0).f2) ((rd_T46 l0_13 0).f3.f0) ((rd_T46 l0_13 0).f3.f1) ((rd_T46 l0_13 0).f3.f2) ((rd_T46 l0_13 0).f3.f3.f0) ((rd_T46 l0_13 0).f3.f3.f1) ((rd_T46 l0_13 0).f4.f0) ((rd_T46 l0_13 0).f4.f1) ((rd_T46 l0_13 0).f4.f2) ((rd_T46 l0_13 0).f4.f3.f0) ((rd_T46 l0_13 0).f4.f3.f1) ((rd_T46 l0_13 0).f5) a1 (wrap64 (2 - a2))).bind fun t450 => (some t450)) else (none)) else (some (a2 == 1))) else (some (a2 == 1)))))))) = some r := h
 clear h
 by_cases c4 : a0_0 = 1
 ·rw [if_pos c4] at H
  have c4b0 : (a0_0 == 1) = true := beq_iff_eq.mpr c4
  have c4b1 : (a0_0 != 1) = false := bne_eq_false_iff_eq.mpr c4
  clear c4
  by_cases c5 : a2 = a0_1
  ·rw [if_pos c5] at H
   have c5b0 : (a2 == a0_1) = true := beq_iff_eq.mpr c5
   have c5b1 : (a2 != a0_1) = false := bne_eq_false_iff_eq.mpr c5
   clear c5
   obtain rfl := Option.some.inj H
   go_enter Try.func27, Try.ntmps27
   go_wp2_with (first | ((with_reducible refine gate_dst (N := 3) rfl ?_); refine box_event ?hg (N := 3) ?hd (cs := #[.int .i64 a0_0, .int .i64 a0_1, .int .i64 a0_2, .int .i64 a0_3, .int .i64 a0_4, .int .i64 a0_5, .bool a0_6, .int .i64 a0_7, .int .i64 a0_8, .int .i64 a0_9, .int .i64 a0_10, .bool a0_11, .int .i64 a0_12, .slice A0_13 l0_13.length c0_13]) (t := 46) ?hr ?_; (case hd => rfl); (case hg => rfl); (case hr => first | (go_simp; done) | (go_simp; rfl)); intro gb442 hg w6 hbox hb; have n0_ := Aside0.mk (below_step (by repeat (first | (with_reducible first | exact HB.out | apply below_alloc | apply pw_below_drewN | apply below_drew1) | exact HB.out)) hb); have n1_ := Aside0.mk (hbox); have n2_ := Aside0.mk ((by rw [hg]; exact (below_size (by repeat (first | (with_reducible first | exact HB.out | apply below_alloc | apply pw_below_drewN | apply below_drew1) | exact HB.out))) : w.heap.size ≤ gb442)); have n3_ := n2_; clear HB; have HB := n0_; have BK442 := n1_; have GW442 := n2_; have GE442 := n3_; clear n0_ n1_ n2_ n3_; clear hb hbox hg; have hcz7 := blk_cell BK442.out; have hfz7 := blk_frozen BK442.out; have hfz7_13 := blk_frozen BK442.out 13))
   go_ret
   exact ⟨by first | rfl | (simp [errW_none, errW_some] <;> rfl) | (simp [*, errW_none, errW_some] <;> rfl), by repeat (first | (with_reducible first | exact HB.out | apply below_alloc | apply pw_below_drewN | apply below_drew1 | refine below_set ?_ GE442.out) | exact HB.out)⟩
  ·rw [if_neg c5] at H
   have c5b0 : (a2 == a0_1) = false := beq_eq_false_iff_ne.mpr c5
   have c5b1 : (a2 != a0_1) = true := bne_iff_ne.mpr c5
   by_cases c8 : a2 = 1
   ·rw [if_pos c8] at H
    have c8b0 : (a2 == 1) = true := beq_iff_eq.mpr c8
    have c8b1 : (a2 != 1) = false := bne_eq_false_iff_eq.mpr c8
    clear c8
    by_cases c9 : a0_1 < 0
    ·rw [if_pos c9] at H
     have c9b0 : decide (a0_1 < 0) = true := decide_eq_true c9
     clear c9
     obtain rfl := Option.some.inj H
     go_enter Try.func27, Try.ntmps27
     go_wp2_with (first | ((with_reducible refine gate_dst (N := 3) rfl ?_); refine box_event ?hg (N := 3) ?hd (cs := #[.int .i64 a0_0, .int .i64 a0_1, .int .i64 a0_2, .int .i64 a0_3, .int .i64 a0_4, .int .i64 a0_5, .bool a0_6, .int .i64 a0_7, .int .i64 a0_8, .int .i64 a0_9, .int .i64 a0_10, .bool a0_11, .int .i64 a0_12, .slice A0_13 l0_13.length c0_13]) (t := 46) ?hr ?_; (case hd => rfl); (case hg => rfl); (case hr => first | (go_simp; done) | (go_simp; rfl)); intro gb442 hg w10 hbox hb; have n0_ := Aside0.mk (below_step (by repeat (first | (with_reducible first | exact HB.out | apply below_alloc | apply pw_below_drewN | apply below_drew1) | exact HB.out)) hb); have n1_ := Aside0.mk (hbox); have n2_ := Aside0.mk ((by rw [hg]; exact (below_size (by repeat (first | (with_reducible first | exact HB.out | apply below_alloc | apply pw_below_drewN | apply below_drew1) | exact HB.out))) : w.heap.size ≤ gb442)); have n3_ := n2_; clear HB; have HB := n0_; have BK442 := n1_; have GW442 := n2_; have GE442 := n3_; clear n0_ n1_ n2_ n3_; clear hb hbox hg; have hcz11 := blk_cell BK442.out; have hfz11 := blk_frozen BK442.out; have hfz11_13 := blk_frozen BK442.out 13))
     go_ret
     exact ⟨by first | rfl | (simp [errW_none, errW_some] <;> rfl) | (simp [*, errW_none, errW_some] <;> rfl), by repeat (first | (with_reducible first | exact HB.out | apply below_alloc | apply pw_below_drewN | apply below_drew1 | refine below_set ?_ GE442.out) | exact HB.out)⟩
    ·rw [if_neg c9] at H
     have c9b0 : decide (a0_1 < 0) = false := decide_eq_false c9
     clear c9
     obtain rfl := Option.some.inj H
     go_enter Try.func27, Try.ntmps27
     go_wp2_with (first | ((with_reducible refine gate_dst (N := 3) rfl ?_); refine box_event ?hg (N := 3) ?hd (cs := #[.int .i64 a0_0, .int .i64 a0_1, .int .i64 a0_2, .int .i64 a0_3, .int .i64 a0_4, .int .i64 a0_5, .bool a0_6, .int .i64 a0_7, .int .i64 a0_8, .int .i64 a0_9, .int .i64 a0_10, .bool a0_11, .int .i64 a0_12, .slice A0_13 l0_13.length c0_13]) (t := 46) ?hr ?_; (case hd => rfl); (case hg => rfl); (case hr => first | (go_simp; done) | (go_simp; rfl)); intro gb442 hg w12 hbox hb; have n0_ := Aside0.mk (below_step (by repeat (first | (with_reducible first | exact HB.out | apply below_alloc | apply pw_below_drewN | apply below_drew1) | exact HB.out)) hb); have n1_ := Aside0.mk (hbox); have n2_ := Aside0.mk ((by rw [hg]; exact (below_size (by repeat (first | (with_reducible first | exact HB.out | apply below_alloc | apply pw_below_drewN | apply below_drew1) | exact HB.out))) : w.heap.size ≤ gb442)); have n3_ := n2_; clear HB; have HB := n0_; have BK442 := n1_; have GW442 := n2_; have GE442 := n3_; clear n0_ n1_ n2_ n3_; clear hb hbox hg; have hcz13 := blk_cell BK442.out; have hfz13 := blk_frozen BK442.out; have hfz13_13 := blk_frozen BK442.out 13))
     go_ret
     exact ⟨by first | rfl | (simp [errW_none, errW_some] <;> rfl) | (simp [*, errW_none, errW_some] <;> rfl), by repeat (first | (with_reducible first | exact HB.out | apply below_alloc | apply pw_below_drewN | apply below_drew1 | refine below_set ?_ GE442.out) | exact HB.out)⟩
   ·rw [if_neg c8] at H
    have c8b0 : (a2 == 1) = false := beq_eq_false_iff_ne.mpr c8
    have c8b1 : (a2 != 1) = true := bne_iff_ne.mpr c8
    obtain rfl := Option.some.inj H
    go_enter Try.func27, Try.ntmps27
    go_wp2_with (first | ((with_reducible refine gate_dst (N := 3) rfl ?_); refine box_event ?hg (N := 3) ?hd (cs := #[.int .i64 a0_0, .int .i64 a0_1, .int .i64 a0_2, .int .i64 a0_3, .int .i64 a0_4, .int .i64 a0_5, .bool a0_6, .int .i64 a0_7, .int .i64 a0_8, .int .i64 a0_9, .int .i64 a0_10, .bool a0_11, .int .i64 a0_12, .slice A0_13 l0_13.length c0_13]) (t := 46) ?hr ?_; (case hd => rfl); (case hg => rfl); (case hr => first | (go_simp; done) | (go_simp; rfl)); intro gb442 hg w14 hbox hb; have n0_ := Aside0.mk (below_step (by repeat (first | (with_reducible first | exact HB.out | apply below_alloc | apply pw_below_drewN | apply below_drew1) | exact HB.out)) hb); have n1_ := Aside0.mk (hbox); have n2_ := Aside0.mk ((by rw [hg]; exact (below_size (by repeat (first | (with_reducible first | exact HB.out | apply below_alloc | apply pw_below_drewN | apply below_drew1) | exact HB.out))) : w.heap.size ≤ gb442)); have n3_ := n2_; clear HB; have HB := n0_; have BK442 := n1_; have GW442 := n2_; have GE442 := n3_; clear n0_ n1_ n2_ n3_; clear hb hbox hg; have hcz15 := blk_cell BK442.out; have hfz15 := blk_frozen BK442.out; have hfz15_13 := blk_frozen BK442.out 13))
    go_ret
    exact ⟨by first | rfl | (simp [errW_none, errW_some] <;> rfl) | (simp [*, errW_none, errW_some] <;> rfl), by repeat (first | (with_reducible first | exact HB.out | apply below_alloc | apply pw_below_drewN | apply below_drew1 | refine below_set ?_ GE442.out) | exact HB.out)⟩
 ·rw [if_neg c4] at H
  have c4b0 : (a0_0 == 1) = false := beq_eq_false_iff_ne.mpr c4
  have c4b1 : (a0_0 != 1) = true := bne_iff_ne.mpr c4
  by_cases c16 : a0_0 = 2
  ·rw [if_pos c16] at H
   have c16b0 : (a0_0 == 2) = true := beq_iff_eq.mpr c16
   have c16b1 : (a0_0 != 2) = false := bne_eq_false_iff_eq.mpr c16
   clear c16
   by_cases c17 : a0_2 < 1
   ·rw [if_pos c17] at H
    have c17b0 : decide (a0_2 < 1) = true := decide_eq_true c17
    clear c17
    obtain rfl := Option.some.inj H
    go_enter Try.func27, Try.ntmps27
    go_wp2_with (first | ((with_reducible refine gate_dst (N := 3) rfl ?_); refine box_event ?hg (N := 3) ?hd (cs := #[.int .i64 a0_0, .int .i64 a0_1, .int .i64 a0_2, .int .i64 a0_3, .int .i64 a0_4, .int .i64 a0_5, .bool a0_6, .int .i64 a0_7, .int .i64 a0_8, .int .i64 a0_9, .int .i64 a0_10, .bool a0_11, .int .i64 a0_12, .slice A0_13 l0_13.length c0_13]) (t := 46) ?hr ?_; (case hd => rfl); (case hg => rfl); (case hr => first | (go_simp; done) | (go_simp; rfl)); intro gb442 hg w18 hbox hb; have n0_ := Aside0.mk (below_step (by repeat (first | (with_reducible first | exact HB.out | apply below_alloc | apply pw_below_drewN | apply below_drew1) | exact HB.out)) hb); have n1_ := Aside0.mk (hbox); have n2_ := Aside0.mk ((by rw [hg]; exact (below_size (by repeat (first | (with_reducible first | exact HB.out | apply below_alloc | apply pw_below_drewN | apply below_drew1) | exact HB.out))) : w.heap.size ≤ gb442)); have n3_ := n2_; clear HB; have HB := n0_; have BK442 := n1_; have GW442 := n2_; have GE442 := n3_; clear n0_ n1_ n2_ n3_; clear hb hbox hg; have hcz19 := blk_cell BK442.out; have hfz19 := blk_frozen BK442.out; have hfz19_13 := blk_frozen BK442.out 13))
    go_ret
    exact ⟨by first | rfl | (simp [errW_none, errW_some] <;> rfl) | (simp [*, errW_none, errW_some] <;> rfl), by repeat (first | (with_reducible first | exact HB.out | apply below_alloc | apply pw_below_drewN | apply below_drew1 | refine below_set ?_ GE442.out) | exact HB.out)⟩
   ·rw [if_neg c17] at H
    have c17b0 : decide (a0_2 < 1) = false := decide_eq_false c17
    clear c17
    by_cases c20 : a0_2 > 6
    ·rw [if_pos c20] at H
     have c20b0 : decide (6 < a0_2) = true := decide_eq_true c20
     clear c20
     obtain rfl := Option.some.inj H
     go_enter Try.func27, Try.ntmps27
     go_wp2_with (first | ((with_reducible refine gate_dst (N := 3) rfl ?_); refine box_event ?hg (N := 3) ?hd (cs := #[.int .i64 a0_0, .int .i64 a0_1, .int .i64 a0_2, .int .i64 a0_3, .int .i64 a0_4, .int .i64 a0_5, .bool a0_6, .int .i64 a0_7, .int .i64 a0_8, .int .i64 a0_9, .int .i64 a0_10, .bool a0_11, .int .i64 a0_12, .slice A0_13 l0_13.length c0_13]) (t := 46) ?hr ?_; (case hd => rfl); (case hg => rfl); (case hr => first | (go_simp; done) | (go_simp; rfl)); intro gb442 hg w21 hbox hb; have n0_ := Aside0.mk (below_step (by repeat (first | (with_reducible first | exact HB.out | apply below_alloc | apply pw_below_drewN | apply below_drew1) | exact HB.out)) hb); have n1_ := Aside0.mk (hbox); have n2_ := Aside0.mk ((by rw [hg]; exact (below_size (by repeat (first | (with_reducible first | exact HB.out | apply below_alloc | apply pw_below_drewN | apply below_drew1) | exact HB.out))) : w.heap.size ≤ gb442)); have n3_ := n2_; clear HB; have HB := n0_; have BK442 := n1_; have GW442 := n2_; have GE442 := n3_; clear n0_ n1_ n2_ n3_; clear hb hbox hg; have hcz22 := blk_cell BK442.out; have hfz22 := blk_frozen BK442.out; have hfz22_13 := blk_frozen BK442.out 13))
     go_ret
     exact ⟨by first | rfl | (simp [errW_none, errW_some] <;> rfl) | (simp [*, errW_none, errW_some] <;> rfl), by repeat (first | (with_reducible first | exact HB.out | apply below_alloc | apply pw_below_drewN | apply below_drew1 | refine below_set ?_ GE442.out) | exact HB.out)⟩
    ·rw [if_neg c20] at H
     have c20b0 : decide (6 < a0_2) = false := decide_eq_false c20
     clear c20
     replace H := Option.bind_eq_some_iff.mp H
     obtain ⟨t443, A230, H⟩ := H
     replace H : (if t443 = true then (some (a2 == 1)) else ((watersmeetref07_sure.f k a0_8 a0_9 a0_10 a0_11 a0_12 a1).bind fun t444 => (if t444 = true then (some (a2 == 1)) else (if a0_3 = 1 then (some true) else (if a0_8 = 1 then (some true) else ((watersmeetref03_Compare.f k a0_2 a0_6 a0_7 a0_11 a0_12).bind fun t445 => (some (a2 == t445)))))))) = some r := H
     have A23 := Aside0.mk A230
     clear A230
     by_cases c24 : t443 = true
     ·subst c24
      have H1 : (some (a2 == 1)) = some r := by rw [if_pos rfl] at H; exact H
      clear H
      have H := H1
      clear H1
      obtain rfl := Option.some.inj H
      go_enter Try.func27, Try.ntmps27
      go_wp2_with (first | ((with_reducible refine gate_dst (N := 3) rfl ?_); refine box_event ?hg (N := 3) ?hd (cs := #[.int .i64 a0_0, .int .i64 a0_1, .int .i64 a0_2, .int .i64 a0_3, .int .i64 a0_4, .int .i64 a0_5, .bool a0_6, .int .i64 a0_7, .int .i64 a0_8, .int .i64 a0_9, .int .i64 a0_10, .bool a0_11, .int .i64 a0_12, .slice A0_13 l0_13.length c0_13]) (t := 46) ?hr ?_; (case hd => rfl); (case hg => rfl); (case hr => first | (go_simp; done) | (go_simp; rfl)); intro gb442 hg w25 hbox hb; have n0_ := Aside0.mk (below_step (by repeat (first | (with_reducible first | exact HB.out | apply below_alloc | apply pw_below_drewN | apply below_drew1) | exact HB.out)) hb); have n1_ := Aside0.mk (hbox); have n2_ := Aside0.mk ((by rw [hg]; exact (below_size (by repeat (first | (with_reducible first | exact HB.out | apply below_alloc | apply pw_below_drewN | apply below_drew1) | exact HB.out))) : w.heap.size ≤ gb442)); have n3_ := n2_; clear HB; have HB := n0_; have BK442 := n1_; have GW442 := n2_; have GE442 := n3_; clear n0_ n1_ n2_ n3_; clear hb hbox hg; have hcz26 := blk_cell BK442.out; have hfz26 := blk_frozen BK442.out; have hfz26_13 := blk_frozen BK442.out 13) | (go_at_call 63; (with_reducible refine (watersmeetref07_sure.calls k a0_3 a0_4 a0_5 a0_6 a0_7 a1 true _ A23.out).mono ?_); rintro e w27 ⟨rfl, hb⟩; have n0_ := Aside0.mk (blk_below (by (with_reducible repeat (first | refine blk_drewN ?_ _ | refine blk_drew ?_ | refine blk_alloc ?_ _)); exact BK442.out) hb); have n1_ := Aside0.mk (below_step (by repeat (first | (with_reducible first | exact HB.out | apply below_alloc | apply pw_below_drewN | apply below_drew1 | refine below_set ?_ GE442.out) | exact HB.out)) hb); clear BK442; clear HB; have BK442 := n0_; have HB := n1_; clear n0_ n1_; (try clear hb); (try clear hb2); (try clear hk); (try clear hi)))
      go_ret
      exact ⟨by first | rfl | (simp [errW_none, errW_some] <;> rfl) | (simp [*, errW_none, errW_some] <;> rfl), by repeat (first | (with_reducible first | exact HB.out | apply below_alloc | apply pw_below_drewN | apply below_drew1 | refine below_set ?_ GE442.out) | exact HB.out)⟩
     ·replace c24 := Bool.eq_false_iff.mpr c24
      subst c24
      have H1 : ((watersmeetref07_sure.f k a0_8 a0_9 a0_10 a0_11 a0_12 a1).bind fun t444 => (if t444 = true then (some (a2 == 1)) else (if a0_3 = 1 then (some true) else (if a0_8 = 1 then (some true) else ((watersmeetref03_Compare.f k a0_2 a0_6 a0_7 a0_11 a0_12).bind fun t445 => (some (a2 == t445))))))) = some r := by rw [if_neg (show ¬ (false = true) by decide)] at H; exact H
      clear H
      have H := H1
      clear H1
      replace H := Option.bind_eq_some_iff.mp H
      obtain ⟨t444, A280, H⟩ := H
      replace H : (if t444 = true then (some (a2 == 1)) else (if a0_3 = 1 then (some true) else (if a0_8 = 1 then (some true) else ((watersmeetref03_Compare.f k a0_2 a0_6 a0_7 a0_11 a0_12).bind fun t445 => (some (a2 == t445)))))) = some r := H
      have A28 := Aside0.mk A280
      clear A280
      by_cases c29 : t444 = true
      ·subst c29
       have H1 : (some (a2 == 1)) = some r := by rw [if_pos rfl] at H; exact H
       clear H
       have H := H1
       clear H1
       obtain rfl := Option.some.inj H
       go_enter Try.func27, Try.ntmps27
       go_wp2_with (first | ((with_reducible refine gate_dst (N := 3) rfl ?_); refine box_event ?hg (N := 3) ?hd (cs := #[.int .i64 a0_0, .int .i64 a0_1, .int .i64 a0_2, .int .i64 a0_3, .int .i64 a0_4, .int .i64 a0_5, .bool a0_6, .int .i64 a0_7, .int .i64 a0_8, .int .i64 a0_9, .int .i64 a0_10, .bool a0_11, .int .i64 a0_12, .slice A0_13 l0_13.length c0_13]) (t := 46) ?hr ?_; (case hd => rfl); (case hg => rfl); (case hr => first | (go_simp; done) | (go_simp; rfl)); intro gb442 hg w30 hbox hb; have n0_ := Aside0.mk (below_step (by repeat (first | (with_reducible first | exact HB.out | apply below_alloc | apply pw_below_drewN | apply below_drew1) | exact HB.out)) hb); have n1_ := Aside0.mk (hbox); have n2_ := Aside0.mk ((by rw [hg]; exact (below_size (by repeat (first | (with_reducible first | exact HB.out | apply below_alloc | apply pw_below_drewN | apply below_drew1) | exact HB.out))) : w.heap.size ≤ gb442)); have n3_ := n2_; clear HB; have HB := n0_; have BK442 := n1_; have GW442 := n2_; have GE442 := n3_; clear n0_ n1_ n2_ n3_; clear hb hbox hg; have hcz31 := blk_cell BK442.out; have hfz31 := blk_frozen BK442.out; have hfz31_13 := blk_frozen BK442.out 13) | (go_at_call 63; (with_reducible refine (watersmeetref07_sure.calls k a0_3 a0_4 a0_5 a0_6 a0_7 a1 false _ A23.out).mono ?_); rintro e w32 ⟨rfl, hb⟩; have n0_ := Aside0.mk (blk_below (by (with_reducible repeat (first | refine blk_drewN ?_ _ | refine blk_drew ?_ | refine blk_alloc ?_ _)); exact BK442.out) hb); have n1_ := Aside0.mk (below_step (by repeat (first | (with_reducible first | exact HB.out | apply below_alloc | apply pw_below_drewN | apply below_drew1 | refine below_set ?_ GE442.out) | exact HB.out)) hb); clear BK442; clear HB; have BK442 := n0_; have HB := n1_; clear n0_ n1_; (try clear hb); (try clear hb2); (try clear hk); (try clear hi); have hcz33 := blk_cell BK442.out; have hfz33 := blk_frozen BK442.out; have hfz33_13 := blk_frozen BK442.out 13) | (go_at_call 63; (with_reducible refine (watersmeetref07_sure.calls k a0_8 a0_9 a0_10 a0_11 a0_12 a1 true _ A28.out).mono ?_); rintro e w34 ⟨rfl, hb⟩; have n0_ := Aside0.mk (blk_below (by (with_reducible repeat (first | refine blk_drewN ?_ _ | refine blk_drew ?_ | refine blk_alloc ?_ _)); exact BK442.out) hb); have n1_ := Aside0.mk (below_step (by repeat (first | (with_reducible first | exact HB.out | apply below_alloc | apply pw_below_drewN | apply below_drew1 | refine below_set ?_ GE442.out) | exact HB.out)) hb); clear BK442; clear HB; have BK442 := n0_; have HB := n1_; clear n0_ n1_; (try clear hb); (try clear hb2); (try clear hk); (try clear hi)))
       go_ret
       exact ⟨by first | rfl | (simp [errW_none, errW_some] <;> rfl) | (simp [*, errW_none, errW_some] <;> rfl), by repeat (first | (with_reducible first | exact HB.out | apply below_alloc | apply pw_below_drewN | apply below_drew1 | refine below_set ?_ GE442.out) | exact HB.out)⟩
      ·replace c29 := Bool.eq_false_iff.mpr c29
       subst c29
       have H1 : (if a0_3 = 1 then (some true) else (if a0_8 = 1 then (some true) else ((watersmeetref03_Compare.f k a0_2 a0_6 a0_7 a0_11 a0_12).bind fun t445 => (some (a2 == t445))))) = some r := by rw [if_neg (show ¬ (false = true) by decide)] at H; exact H
       clear H
       have H := H1
       clear H1
       by_cases c35 : a0_3 = 1
       ·rw [if_pos c35] at H
        have c35b0 : (a0_3 == 1) = true := beq_iff_eq.mpr c35
        have c35b1 : (a0_3 != 1) = false := bne_eq_false_iff_eq.mpr c35
        clear c35
        obtain rfl := Option.some.inj H
        go_enter Try.func27, Try.ntmps27
        go_wp2_with (first | ((with_reducible refine gate_dst (N := 3) rfl ?_); refine box_event ?hg (N := 3) ?hd (cs := #[.int .i64 a0_0, .int .i64 a0_1, .int .i64 a0_2, .int .i64 a0_3, .int .i64 a0_4, .int .i64 a0_5, .bool a0_6, .int .i64 a0_7, .int .i64 a0_8, .int .i64 a0_9, .int .i64 a0_10, .bool a0_11, .int .i64 a0_12, .slice A0_13 l0_13.length c0_13]) (t := 46) ?hr ?_; (case hd => rfl); (case hg => rfl); (case hr => first | (go_simp; done) | (go_simp; rfl)); intro gb442 hg w36 hbox hb; have n0_ := Aside0.mk (below_step (by repeat (first | (with_reducible first | exact HB.out | apply below_alloc | apply pw_below_drewN | apply below_drew1) | exact HB.out)) hb); have n1_ := Aside0.mk (hbox); have n2_ := Aside0.mk ((by rw [hg]; exact (below_size (by repeat (first | (with_reducible first | exact HB.out | apply below_alloc | apply pw_below_drewN | apply below_drew1) | exact HB.out))) : w.heap.size ≤ gb442)); have n3_ := n2_; clear HB; have HB := n0_; have BK442 := n1_; have GW442 := n2_; have GE442 := n3_; clear n0_ n1_ n2_ n3_; clear hb hbox hg; have hcz37 := blk_cell BK442.out; have hfz37 := blk_frozen BK442.out; have hfz37_13 := blk_frozen BK442.out 13) | (go_at_call 63; (with_reducible refine (watersmeetref07_sure.calls k a0_3 a0_4 a0_5 a0_6 a0_7 a1 false _ A23.out).mono ?_); rintro e w38 ⟨rfl, hb⟩; have n0_ := Aside0.mk (blk_below (by (with_reducible repeat (first | refine blk_drewN ?_ _ | refine blk_drew ?_ | refine blk_alloc ?_ _)); exact BK442.out) hb); have n1_ := Aside0.mk (below_step (by repeat (first | (with_reducible first | exact HB.out | apply below_alloc | apply pw_below_drewN | apply below_drew1 | refine below_set ?_ GE442.out) | exact HB.out)) hb); clear BK442; clear HB; have BK442 := n0_; have HB := n1_; clear n0_ n1_; (try clear hb); (try clear hb2); (try clear hk); (try clear hi); have hcz39 := blk_cell BK442.out; have hfz39 := blk_frozen BK442.out; have hfz39_13 := blk_frozen BK442.out 13) | (go_at_call 63; (with_reducible refine (watersmeetref07_sure.calls k a0_8 a0_9 a0_10 a0_11 a0_12 a1 false _ A28.out).mono ?_); rintro e w40 ⟨rfl, hb⟩; have n0_ := Aside0.mk (blk_below (by (with_reducible repeat (first | refine blk_drewN ?_ _ | refine blk_drew ?_ | refine blk_alloc ?_ _)); exact BK442.out) hb); have n1_ := Aside0.mk (below_step (by repeat (first | (with_reducible first | exact HB.out | apply below_alloc | apply pw_below_drewN | apply below_drew1 | refine below_set ?_ GE442.out) | exact HB.out)) hb); clear BK442; clear HB; have BK442 := n0_; have HB := n1_; clear n0_ n1_; (try clear hb); (try clear hb2); (try clear hk); (try clear hi); have hcz41 := blk_cell BK442.out; have hfz41 := blk_frozen BK442.out; have hfz41_13 := blk_frozen BK442.out 13))
        go_ret
        exact ⟨by first | rfl | (simp [errW_none, errW_some] <;> rfl) | (simp [*, errW_none, errW_some] <;> rfl), by repeat (first | (with_reducible first | exact HB.out | apply below_alloc | apply pw_below_drewN | apply below_drew1 | refine below_set ?_ GE442.out) | exact HB.out)⟩
       ·rw [if_neg c35] at H
        have c35b0 : (a0_3 == 1) = false := beq_eq_false_iff_ne.mpr c35
        have c35b1 : (a0_3 != 1) = true := bne_iff_ne.mpr c35
        by_cases c42 : a0_8 = 1
        ·rw [if_pos c42] at H
         have c42b0 : (a0_8 == 1) = true := beq_iff_eq.mpr c42
         have c42b1 : (a0_8 != 1) = false := bne_eq_false_iff_eq.mpr c42
         clear c42
         obtain rfl := Option.some.inj H
         go_enter Try.func27, Try.ntmps27
         go_wp2_with (first | ((with_reducible refine gate_dst (N := 3) rfl ?_); refine box_event ?hg (N := 3) ?hd (cs := #[.int .i64 a0_0, .int .i64 a0_1, .int .i64 a0_2, .int .i64 a0_3, .int .i64 a0_4, .int .i64 a0_5, .bool a0_6, .int .i64 a0_7, .int .i64 a0_8, .int .i64 a0_9, .int .i64 a0_10, .bool a0_11, .int .i64 a0_12, .slice A0_13 l0_13.length c0_13]) (t := 46) ?hr ?_; (case hd => rfl); (case hg => rfl); (case hr => first | (go_simp; done) | (go_simp; rfl)); intro gb442 hg w43 hbox hb; have n0_ := Aside0.mk (below_step (by repeat (first | (with_reducible first | exact HB.out | apply below_alloc | apply pw_below_drewN | apply below_drew1) | exact HB.out)) hb); have n1_ := Aside0.mk (hbox); have n2_ := Aside0.mk ((by rw [hg]; exact (below_size (by repeat (first | (with_reducible first | exact HB.out | apply below_alloc | apply pw_below_drewN | apply below_drew1) | exact HB.out))) : w.heap.size ≤ gb442)); have n3_ := n2_; clear HB; have HB := n0_; have BK442 := n1_; have GW442 := n2_; have GE442 := n3_; clear n0_ n1_ n2_ n3_; clear hb hbox hg; have hcz44 := blk_cell BK442.out; have hfz44 := blk_frozen BK442.out; have hfz44_13 := blk_frozen BK442.out 13) | (go_at_call 63; (with_reducible refine (watersmeetref07_sure.calls k a0_3 a0_4 a0_5 a0_6 a0_7 a1 false _ A23.out).mono ?_); rintro e w45 ⟨rfl, hb⟩; have n0_ := Aside0.mk (blk_below (by (with_reducible repeat (first | refine blk_drewN ?_ _ | refine blk_drew ?_ | refine blk_alloc ?_ _)); exact BK442.out) hb); have n1_ := Aside0.mk (below_step (by repeat (first | (with_reducible first | exact HB.out | apply below_alloc | apply pw_below_drewN | apply below_drew1 | refine below_set ?_ GE442.out) | exact HB.out)) hb); clear BK442; clear HB; have BK442 := n0_; have HB := n1_; clear n0_ n1_; (try clear hb); (try clear hb2); (try clear hk); (try clear hi); have hcz46 := blk_cell BK442.out; have hfz46 := blk_frozen BK442.out; have hfz46_13 := blk_frozen BK442.out 13) | (go_at_call 63; (with_reducible refine (watersmeetref07_sure.calls k a0_8 a0_9 a0_10 a0_11 a0_12 a1 false _ A28.out).mono ?_); rintro e w47 ⟨rfl, hb⟩; have n0_ := Aside0.mk (blk_below (by (with_reducible repeat (first | refine blk_drewN ?_ _ | refine blk_drew ?_ | refine blk_alloc ?_ _)); exact BK442.out) hb); have n1_ := Aside0.mk (below_step (by repeat (first | (with_reducible first | exact HB.out | apply below_alloc | apply pw_below_drewN | apply below_drew1 | refine below_set ?_ GE442.out) | exact HB.out)) hb); clear BK442; clear HB; have BK442 := n0_; have HB := n1_; clear n0_ n1_; (try clear hb); (try clear hb2); (try clear hk); (try clear hi); have hcz48 := blk_cell BK442.out; have hfz48 := blk_frozen BK442.out; have hfz48_13 := blk_frozen BK442.out 13))
         go_ret
         exact ⟨by first | rfl | (simp [errW_none, errW_some] <;> rfl) | (simp [*, errW_none, errW_some] <;> rfl), by repeat (first | (with_reducible first | exact HB.out | apply below_alloc | apply pw_below_drewN | apply below_drew1 | refine below_set ?_ GE442.out) | exact HB.out)⟩
        ·rw [if_neg c42] at H
         have c42b0 : (a0_8 == 1) = false := beq_eq_false_iff_ne.mpr c42
         have c42b1 : (a0_8 != 1) = true := bne_iff_ne.mpr c42
         replace H := Option.bind_eq_some_iff.mp H
         obtain ⟨t445, A490, H⟩ := H
         replace H : (some (a2 == t445)) = some r := H
         have A49 := Aside0.mk A490
         clear A490
         obtain rfl := Option.some.inj H
         go_enter Try.func27, Try.ntmps27
         go_wp2_with (first | ((with_reducible refine gate_dst (N := 3) rfl ?_); refine box_event ?hg (N := 3) ?hd (cs := #[.int .i64 a0_0, .int .i64 a0_1, .int .i64 a0_2, .int .i64 a0_3, .int .i64 a0_4, .int .i64 a0_5, .bool a0_6, .int .i64 a0_7, .int .i64 a0_8, .int .i64 a0_9, .int .i64 a0_10, .bool a0_11, .int .i64 a0_12, .slice A0_13 l0_13.length c0_13]) (t := 46) ?hr ?_; (case hd => rfl); (case hg => rfl); (case hr => first | (go_simp; done) | (go_simp; rfl)); intro gb442 hg w50 hbox hb; have n0_ := Aside0.mk (below_step (by repeat (first | (with_reducible first | exact HB.out | apply below_alloc | apply pw_below_drewN | apply below_drew1) | exact HB.out)) hb); have n1_ := Aside0.mk (hbox); have n2_ := Aside0.mk ((by rw [hg]; exact (below_size (by repeat (first | (with_reducible first | exact HB.out | apply below_alloc | apply pw_below_drewN | apply below_drew1) | exact HB.out))) : w.heap.size ≤ gb442)); have n3_ := n2_; clear HB; have HB := n0_; have BK442 := n1_; have GW442 := n2_; have GE442 := n3_; clear n0_ n1_ n2_ n3_; clear hb hbox hg; have hcz51 := blk_cell BK442.out; have hfz51 := blk_frozen BK442.out; have hfz51_13 := blk_frozen BK442.out 13) | (go_at_call 63; (with_reducible refine (watersmeetref07_sure.calls k a0_3 a0_4 a0_5 a0_6 a0_7 a1 false _ A23.out).mono ?_); rintro e w52 ⟨rfl, hb⟩; have n0_ := Aside0.mk (blk_below (by (with_reducible repeat (first | refine blk_drewN ?_ _ | refine blk_drew ?_ | refine blk_alloc ?_ _)); exact BK442.out) hb); have n1_ := Aside0.mk (below_step (by repeat (first | (with_reducible first | exact HB.out | apply below_alloc | apply pw_below_drewN | apply below_drew1 | refine below_set ?_ GE442.out) | exact HB.out)) hb); clear BK442; clear HB; have BK442 := n0_; have HB := n1_; clear n0_ n1_; (try clear hb); (try clear hb2); (try clear hk); (try clear hi); have hcz53 := blk_cell BK442.out; have hfz53 := blk_frozen BK442.out; have hfz53_13 := blk_frozen BK442.out 13) | (go_at_call 63; (with_reducible refine (watersmeetref07_sure.calls k a0_8 a0_9 a0_10 a0_11 a0_12 a1 false _ A28.out).mono ?_); rintro e w54 ⟨rfl, hb⟩; have n0_ := Aside0.mk (blk_below (by (with_reducible repeat (first | refine blk_drewN ?_ _ | refine blk_drew ?_ | refine blk_alloc ?_ _)); exact BK442.out) hb); have n1_ := Aside0.mk (below_step (by repeat (first | (with_reducible first | exact HB.out | apply below_alloc | apply pw_below_drewN | apply below_drew1 | refine below_set ?_ GE442.out) | exact HB.out)) hb); clear BK442; clear HB; have BK442 := n0_; have HB := n1_; clear n0_ n1_; (try clear hb); (try clear hb2); (try clear hk); (try clear hi); have hcz55 := blk_cell BK442.out; have hfz55 := blk_frozen BK442.out; have hfz55_13 := blk_frozen BK442.out 13) | (go_at_call 64; (with_reducible refine (watersmeetref03_Compare.calls k a0_2 a0_6 a0_7 a0_11 a0_12 t445 _ A49.out).mono ?_); rintro e w56 ⟨rfl, hb⟩; have n0_ := Aside0.mk (blk_below (by (with_reducible repeat (first | refine blk_drewN ?_ _ | refine blk_drew ?_ | refine blk_alloc ?_ _)); exact BK442.out) hb); have n1_ := Aside0.mk (below_step (by repeat (first | (with_reducible first | exact HB.out | apply below_alloc | apply pw_below_drewN | apply below_drew1 | refine below_set ?_ GE442.out) | exact HB.out)) hb); clear BK442; clear HB; have BK442 := n0_; have HB := n1_; clear n0_ n1_; (try clear hb); (try clear hb2); (try clear hk); (try clear hi)))
         go_ret
         exact ⟨by first | rfl | (simp [errW_none, errW_some] <;> rfl) | (simp [*, errW_none, errW_some] <;> rfl), by repeat (first | (with_reducible first | exact HB.out | apply below_alloc | apply pw_below_drewN | apply below_drew1 | refine below_set ?_ GE442.out) | exact HB.out)⟩
  ·rw [if_neg c16] at H
   have c16b0 : (a0_0 == 2) = false := beq_eq_false_iff_ne.mpr c16
   have c16b1 : (a0_0 != 2) = true := bne_iff_ne.mpr c16
   by_cases c57 : a0_0 = 3
   ·rw [if_pos c57] at H
    have c57b0 : (a0_0 == 3) = true := beq_iff_eq.mpr c57
    have c57b1 : (a0_0 != 3) = false := bne_eq_false_iff_eq.mpr c57
    clear c57
    replace H := Option.bind_eq_some_iff.mp H
    obtain ⟨t446, A580, H⟩ := H
    replace H : (if t446 = true then (some (a2 == 2)) else (if a2 = 0 then (some true) else (if a2 = 2 then (some (a0_3 == 1)) else (some false)))) = some r := H
    have A58 := Aside0.mk A580
    clear A580
    by_cases c59 : t446 = true
    ·subst c59
     have H1 : (some (a2 == 2)) = some r := by rw [if_pos rfl] at H; exact H
     clear H
     have H := H1
     clear H1
     obtain rfl := Option.some.inj H
     go_enter Try.func27, Try.ntmps27
     go_wp2_with (first | ((with_reducible refine gate_dst (N := 3) rfl ?_); refine box_event ?hg (N := 3) ?hd (cs := #[.int .i64 a0_0, .int .i64 a0_1, .int .i64 a0_2, .int .i64 a0_3, .int .i64 a0_4, .int .i64 a0_5, .bool a0_6, .int .i64 a0_7, .int .i64 a0_8, .int .i64 a0_9, .int .i64 a0_10, .bool a0_11, .int .i64 a0_12, .slice A0_13 l0_13.length c0_13]) (t := 46) ?hr ?_; (case hd => rfl); (case hg => rfl); (case hr => first | (go_simp; done) | (go_simp; rfl)); intro gb442 hg w60 hbox hb; have n0_ := Aside0.mk (below_step (by repeat (first | (with_reducible first | exact HB.out | apply below_alloc | apply pw_below_drewN | apply below_drew1) | exact HB.out)) hb); have n1_ := Aside0.mk (hbox); have n2_ := Aside0.mk ((by rw [hg]; exact (below_size (by repeat (first | (with_reducible first | exact HB.out | apply below_alloc | apply pw_below_drewN | apply below_drew1) | exact HB.out))) : w.heap.size ≤ gb442)); have n3_ := n2_; clear HB; have HB := n0_; have BK442 := n1_; have GW442 := n2_; have GE442 := n3_; clear n0_ n1_ n2_ n3_; clear hb hbox hg; have hcz61 := blk_cell BK442.out; have hfz61 := blk_frozen BK442.out; have hfz61_13 := blk_frozen BK442.out 13) | ((with_reducible refine gate_callee (f := 63) rfl ?_); refine goesL_ (some 81) rfl rfl Try.func63 (by kernel_rfl) rfl #[.agg #[.int .i64 a0_3, .int .i64 a0_4, .int .i64 a0_5, .bool a0_6, .int .i64 a0_7], .int .u64 a1] rfl (by (try simp only [List.map_toArray, List.map_cons, List.map_nil]); first | done | rfl | (simp only [List.length_drop, List.length_take]; rfl)) ?_; (with_reducible refine (watersmeetref07_sure.calls k a0_3 a0_4 a0_5 a0_6 a0_7 a1 true _ A58.out).mono ?_); rintro e w62 ⟨rfl, hb⟩; refine ⟨_, rfl, ?_⟩; have n0_ := Aside0.mk (blk_below (by (with_reducible repeat (first | refine blk_drewN ?_ _ | refine blk_drew ?_ | refine blk_alloc ?_ _)); exact BK442.out) hb); have n1_ := Aside0.mk (below_step (by repeat (first | (with_reducible first | exact HB.out | apply below_alloc | apply pw_below_drewN | apply below_drew1 | refine below_set ?_ GE442.out) | exact HB.out)) hb); clear BK442; clear HB; have BK442 := n0_; have HB := n1_; clear n0_ n1_; (try clear hb); (try clear hb2); (try clear hk); (try clear hi)))
     go_ret
     exact ⟨by first | rfl | (simp [errW_none, errW_some] <;> rfl) | (simp [*, errW_none, errW_some] <;> rfl), by repeat (first | (with_reducible first | exact HB.out | apply below_alloc | apply pw_below_drewN | apply below_drew1 | refine below_set ?_ GE442.out) | exact HB.out)⟩
    ·replace c59 := Bool.eq_false_iff.mpr c59
     subst c59
     have H1 : (if a2 = 0 then (some true) else (if a2 = 2 then (some (a0_3 == 1)) else (some false))) = some r := by rw [if_neg (show ¬ (false = true) by decide)] at H; exact H
     clear H
     have H := H1
     clear H1
     by_cases c63 : a2 = 0
     ·rw [if_pos c63] at H
      have c63b0 : (a2 == 0) = true := beq_iff_eq.mpr c63
      have c63b1 : (a2 != 0) = false := bne_eq_false_iff_eq.mpr c63
      clear c63
      obtain rfl := Option.some.inj H
      go_enter Try.func27, Try.ntmps27
      go_wp2_with (first | ((with_reducible refine gate_dst (N := 3) rfl ?_); refine box_event ?hg (N := 3) ?hd (cs := #[.int .i64 a0_0, .int .i64 a0_1, .int .i64 a0_2, .int .i64 a0_3, .int .i64 a0_4, .int .i64 a0_5, .bool a0_6, .int .i64 a0_7, .int .i64 a0_8, .int .i64 a0_9, .int .i64 a0_10, .bool a0_11, .int .i64 a0_12, .slice A0_13 l0_13.length c0_13]) (t := 46) ?hr ?_; (case hd => rfl); (case hg => rfl); (case hr => first | (go_simp; done) | (go_simp; rfl)); intro gb442 hg w64 hbox hb; have n0_ := Aside0.mk (below_step (by repeat (first | (with_reducible first | exact HB.out | apply below_alloc | apply pw_below_drewN | apply below_drew1) | exact HB.out)) hb); have n1_ := Aside0.mk (hbox); have n2_ := Aside0.mk ((by rw [hg]; exact (below_size (by repeat (first | (with_reducible first | exact HB.out | apply below_alloc | apply pw_below_drewN | apply below_drew1) | exact HB.out))) : w.heap.size ≤ gb442)); have n3_ := n2_; clear HB; have HB := n0_; have BK442 := n1_; have GW442 := n2_; have GE442 := n3_; clear n0_ n1_ n2_ n3_; clear hb hbox hg; have hcz65 := blk_cell BK442.out; have hfz65 := blk_frozen BK442.out; have hfz65_13 := blk_frozen BK442.out 13) | ((with_reducible refine gate_callee (f := 63) rfl ?_); refine goesL_ (some 81) rfl rfl Try.func63 (by kernel_rfl) rfl #[.agg #[.int .i64 a0_3, .int .i64 a0_4, .int .i64 a0_5, .bool a0_6, .int .i64 a0_7], .int .u64 a1] rfl (by (try simp only [List.map_toArray, List.map_cons, List.map_nil]); first | done | rfl | (simp only [List.length_drop, List.length_take]; rfl)) ?_; (with_reducible refine (watersmeetref07_sure.calls k a0_3 a0_4 a0_5 a0_6 a0_7 a1 false _ A58.out).mono ?_); rintro e w66 ⟨rfl, hb⟩; refine ⟨_, rfl, ?_⟩; have n0_ := Aside0.mk (blk_below (by (with_reducible repeat (first | refine blk_drewN ?_ _ | refine blk_drew ?_ | refine blk_alloc ?_ _)); exact BK442.out) hb); have n1_ := Aside0.mk (below_step (by repeat (first | (with_reducible first | exact HB.out | apply below_alloc | apply pw_below_drewN | apply below_drew1 | refine below_set ?_ GE442.out) | exact HB.out)) hb); clear BK442; clear HB; have BK442 := n0_; have HB := n1_; clear n0_ n1_; (try clear hb); (try clear hb2); (try clear hk); (try clear hi)))
      go_ret
      exact ⟨by first | rfl | (simp [errW_none, errW_some] <;> rfl) | (simp [*, errW_none, errW_some] <;> rfl), by repeat (first | (with_reducible first | exact HB.out | apply below_alloc | apply pw_below_drewN | apply below_drew1 | refine below_set ?_ GE442.out) | exact HB.out)⟩
     ·rw [if_neg c63] at H
      have c63b0 : (a2 == 0) = false := beq_eq_false_iff_ne.mpr c63
      have c63b1 : (a2 != 0) = true := bne_iff_ne.mpr c63
      by_cases c67 : a2 = 2
      ·rw [if_pos c67] at H
       have c67b0 : (a2 == 2) = true := beq_iff_eq.mpr c67
       have c67b1 : (a2 != 2) = false := bne_eq_false_iff_eq.mpr c67
       clear c67
       obtain rfl := Option.some.inj H
       go_enter Try.func27, Try.ntmps27
       go_wp2_with (first | ((with_reducible refine gate_dst (N := 3) rfl ?_); refine box_event ?hg (N := 3) ?hd (cs := #[.int .i64 a0_0, .int .i64 a0_1, .int .i64 a0_2, .int .i64 a0_3, .int .i64 a0_4, .int .i64 a0_5, .bool a0_6, .int .i64 a0_7, .int .i64 a0_8, .int .i64 a0_9, .int .i64 a0_10, .bool a0_11, .int .i64 a0_12, .slice A0_13 l0_13.length c0_13]) (t := 46) ?hr ?_; (case hd => rfl); (case hg => rfl); (case hr => first | (go_simp; done) | (go_simp; rfl)); intro gb442 hg w68 hbox hb; have n0_ := Aside0.mk (below_step (by repeat (first | (with_reducible first | exact HB.out | apply below_alloc | apply pw_below_drewN | apply below_drew1) | exact HB.out)) hb); have n1_ := Aside0.mk (hbox); have n2_ := Aside0.mk ((by rw [hg]; exact (below_size (by repeat (first | (with_reducible first | exact HB.out | apply below_alloc | apply pw_below_drewN | apply below_drew1) | exact HB.out))) : w.heap.size ≤ gb442)); have n3_ := n2_; clear HB; have HB := n0_; have BK442 := n1_; have GW442 := n2_; have GE442 := n3_; clear n0_ n1_ n2_ n3_; clear hb hbox hg; have hcz69 := blk_cell BK442.out; have hfz69 := blk_frozen BK442.out; have hfz69_13 := blk_frozen BK442.out 13) | ((with_reducible refine gate_callee (f := 63) rfl ?_); refine goesL_ (some 81) rfl rfl Try.func63 (by kernel_rfl) rfl #[.agg #[.int .i64 a0_3, .int .i64 a0_4, .int .i64 a0_5, .bool a0_6, .int .i64 a0_7], .int .u64 a1] rfl (by (try simp only [List.map_toArray, List.map_cons, List.map_nil]); first | done | rfl | (simp only [List.length_drop, List.length_take]; rfl)) ?_; (with_reducible refine (watersmeetref07_sure.calls k a0_3 a0_4 a0_5 a0_6 a0_7 a1 false _ A58.out).mono ?_); rintro e w70 ⟨rfl, hb⟩; refine ⟨_, rfl, ?_⟩; have n0_ := Aside0.mk (blk_below (by (with_reducible repeat (first | refine blk_drewN ?_ _ | refine blk_drew ?_ | refine blk_alloc ?_ _)); exact BK442.out) hb); have n1_ := Aside0.mk (below_step (by repeat (first | (with_reducible first | exact HB.out | apply below_alloc | apply pw_below_drewN | apply below_drew1 | refine below_set ?_ GE442.out) | exact HB.out)) hb); clear BK442; clear HB; have BK442 := n0_; have HB := n1_; clear n0_ n1_; (try clear hb); (try clear hb2); (try clear hk); (try clear hi); have hcz71 := blk_cell BK442.out; have hfz71 := blk_frozen BK442.out; have hfz71_13 := blk_frozen BK442.out 13))
       go_ret
       exact ⟨by first | rfl | (simp [errW_none, errW_some] <;> rfl) | (simp [*, errW_none, errW_some] <;> rfl), by repeat (first | (with_reducible first | exact HB.out | apply below_alloc | apply pw_below_drewN | apply below_drew1 | refine below_set ?_ GE442.out) | exact HB.out)⟩
      ·rw [if_neg c67] at H
       have c67b0 : (a2 == 2) = false := beq_eq_false_iff_ne.mpr c67
       have c67b1 : (a2 != 2) = true := bne_iff_ne.mpr c67
       obtain rfl := Option.some.inj H
       go_enter Try.func27, Try.ntmps27
       go_wp2_with (first | ((with_reducible refine gate_dst (N := 3) rfl ?_); refine box_event ?hg (N := 3) ?hd (cs := #[.int .i64 a0_0, .int .i64 a0_1, .int .i64 a0_2, .int .i64 a0_3, .int .i64 a0_4, .int .i64 a0_5, .bool a0_6, .int .i64 a0_7, .int .i64 a0_8, .int .i64 a0_9, .int .i64 a0_10, .bool a0_11, .int .i64 a0_12, .slice A0_13 l0_13.length c0_13]) (t := 46) ?hr ?_; (case hd => rfl); (case hg => rfl); (case hr => first | (go_simp; done) | (go_simp; rfl)); intro gb442 hg w72 hbox hb; have n0_ := Aside0.mk (below_step (by repeat (first | (with_reducible first | exact HB.out | apply below_alloc | apply pw_below_drewN | apply below_drew1) | exact HB.out)) hb); have n1_ := Aside0.mk (hbox); have n2_ := Aside0.mk ((by rw [hg]; exact (below_size (by repeat (first | (with_reducible first | exact HB.out | apply below_alloc | apply pw_below_drewN | apply below_drew1) | exact HB.out))) : w.heap.size ≤ gb442)); have n3_ := n2_; clear HB; have HB := n0_; have BK442 := n1_; have GW442 := n2_; have GE442 := n3_; clear n0_ n1_ n2_ n3_; clear hb hbox hg; have hcz73 := blk_cell BK442.out; have hfz73 := blk_frozen BK442.out; have hfz73_13 := blk_frozen BK442.out 13) | ((with_reducible refine gate_callee (f := 63) rfl ?_); refine goesL_ (some 81) rfl rfl Try.func63 (by kernel_rfl) rfl #[.agg #[.int .i64 a0_3, .int .i64 a0_4, .int .i64 a0_5, .bool a0_6, .int .i64 a0_7], .int .u64 a1] rfl (by (try simp only [List.map_toArray, List.map_cons, List.map_nil]); first | done | rfl | (simp only [List.length_drop, List.length_take]; rfl)) ?_; (with_reducible refine (watersmeetref07_sure.calls k a0_3 a0_4 a0_5 a0_6 a0_7 a1 false _ A58.out).mono ?_); rintro e w74 ⟨rfl, hb⟩; refine ⟨_, rfl, ?_⟩; have n0_ := Aside0.mk (blk_below (by (with_reducible repeat (first | refine blk_drewN ?_ _ | refine blk_drew ?_ | refine blk_alloc ?_ _)); exact BK442.out) hb); have n1_ := Aside0.mk (below_step (by repeat (first | (with_reducible first | exact HB.out | apply below_alloc | apply pw_below_drewN | apply below_drew1 | refine below_set ?_ GE442.out) | exact HB.out)) hb); clear BK442; clear HB; have BK442 := n0_; have HB := n1_; clear n0_ n1_; (try clear hb); (try clear hb2); (try clear hk); (try clear hi)))
       go_ret
       exact ⟨by first | rfl | (simp [errW_none, errW_some] <;> rfl) | (simp [*, errW_none, errW_some] <;> rfl), by repeat (first | (with_reducible first | exact HB.out | apply below_alloc | apply pw_below_drewN | apply below_drew1 | refine below_set ?_ GE442.out) | exact HB.out)⟩
   ·rw [if_neg c57] at H
    have c57b0 : (a0_0 == 3) = false := beq_eq_false_iff_ne.mpr c57
    have c57b1 : (a0_0 != 3) = true := bne_iff_ne.mpr c57
    by_cases c75 : a0_0 = 4
    ·rw [if_pos c75] at H
     have c75b0 : (a0_0 == 4) = true := beq_iff_eq.mpr c75
     have c75b1 : (a0_0 != 4) = false := bne_eq_false_iff_eq.mpr c75
     clear c75
     replace H := Option.bind_eq_some_iff.mp H
     obtain ⟨t447, A760, H⟩ := H
     replace H : (some t447) = some r := H
     have A76 := Aside0.mk A760
     clear A760
     obtain rfl := Option.some.inj H
     go_enter Try.func27, Try.ntmps27
     go_wp2_with (first | ((with_reducible refine gate_dst (N := 3) rfl ?_); refine box_event ?hg (N := 3) ?hd (cs := #[.int .i64 a0_0, .int .i64 a0_1, .int .i64 a0_2, .int .i64 a0_3, .int .i64 a0_4, .int .i64 a0_5, .bool a0_6, .int .i64 a0_7, .int .i64 a0_8, .int .i64 a0_9, .int .i64 a0_10, .bool a0_11, .int .i64 a0_12, .slice A0_13 l0_13.length c0_13]) (t := 46) ?hr ?_; (case hd => rfl); (case hg => rfl); (case hr => first | (go_simp; done) | (go_simp; rfl)); intro gb442 hg w77 hbox hb; have n0_ := Aside0.mk (below_step (by repeat (first | (with_reducible first | exact HB.out | apply below_alloc | apply pw_below_drewN | apply below_drew1) | exact HB.out)) hb); have n1_ := Aside0.mk (hbox); have n2_ := Aside0.mk ((by rw [hg]; exact (below_size (by repeat (first | (with_reducible first | exact HB.out | apply below_alloc | apply pw_below_drewN | apply below_drew1) | exact HB.out))) : w.heap.size ≤ gb442)); have n3_ := n2_; clear HB; have HB := n0_; have BK442 := n1_; have GW442 := n2_; have GE442 := n3_; clear n0_ n1_ n2_ n3_; clear hb hbox hg; have hcz78 := blk_cell BK442.out; have hfz78 := blk_frozen BK442.out; have hfz78_13 := blk_frozen BK442.out 13) | ((with_reducible refine gate_callee (f := 65) rfl ?_); refine goesL_ (some 102) rfl rfl Try.func65 (by kernel_rfl) rfl #[.slice A0_13 l0_13.length c0_13, .int .u64 a1, .int .i64 a2, .int .i64 2] rfl (by (try simp only [List.map_toArray, List.map_cons, List.map_nil]); first | done | rfl | (simp only [List.length_drop, List.length_take]; rfl)) ?_; (with_reducible refine (ihg_watersmeetref07_many k (by omega) _ _ l0_13 a1 a2 2 t447 _ ?side1 ?side2 A76.out).mono ?_); (case side1 => repeat (first | exact (Kd.C_below HR0_13.out HB.out) | (with_reducible refine Kd.C_alloc ?_ _) | (with_reducible refine Kd.C_drewN ?_ _) | (with_reducible refine Kd.C_drew ?_))); (case side2 => exact HC0_13.out); rintro e w79 ⟨rfl, hb⟩; refine ⟨_, rfl, ?_⟩; have n0_ := Aside0.mk (blk_below (by (with_reducible repeat (first | refine blk_drewN ?_ _ | refine blk_drew ?_ | refine blk_alloc ?_ _)); exact BK442.out) hb); have n1_ := Aside0.mk (below_step (by repeat (first | (with_reducible first | exact HB.out | apply below_alloc | apply pw_below_drewN | apply below_drew1 | refine below_set ?_ GE442.out) | exact HB.out)) hb); clear BK442; clear HB; have BK442 := n0_; have HB := n1_; clear n0_ n1_; (try clear hb); (try clear hb2); (try clear hk); (try clear hi)))
     go_ret
     exact ⟨by first | rfl | (simp [errW_none, errW_some] <;> rfl) | (simp [*, errW_none, errW_some] <;> rfl), by repeat (first | (with_reducible first | exact HB.out | apply below_alloc | apply pw_below_drewN | apply below_drew1 | refine below_set ?_ GE442.out) | exact HB.out)⟩
    ·rw [if_neg c75] at H
     have c75b0 : (a0_0 == 4) = false := beq_eq_false_iff_ne.mpr c75
     have c75b1 : (a0_0 != 4) = true := bne_iff_ne.mpr c75
     by_cases c80 : a0_0 = 5
     ·rw [if_pos c80] at H
      have c80b0 : (a0_0 == 5) = true := beq_iff_eq.mpr c80
      have c80b1 : (a0_0 != 5) = false := bne_eq_false_iff_eq.mpr c80
      clear c80
      replace H := Option.bind_eq_some_iff.mp H
      obtain ⟨t448, A810, H⟩ := H
      replace H : (some t448) = some r := H
      have A81 := Aside0.mk A810
      clear A810
      obtain rfl := Option.some.inj H
      go_enter Try.func27, Try.ntmps27
      go_wp2_with (first | ((with_reducible refine gate_dst (N := 3) rfl ?_); refine box_event ?hg (N := 3) ?hd (cs := #[.int .i64 a0_0, .int .i64 a0_1, .int .i64 a0_2, .int .i64 a0_3, .int .i64 a0_4, .int .i64 a0_5, .bool a0_6, .int .i64 a0_7, .int .i64 a0_8, .int .i64 a0_9, .int .i64 a0_10, .bool a0_11, .int .i64 a0_12, .slice A0_13 l0_13.length c0_13]) (t := 46) ?hr ?_; (case hd => rfl); (case hg => rfl); (case hr => first | (go_simp; done) | (go_simp; rfl)); intro gb442 hg w82 hbox hb; have n0_ := Aside0.mk (below_step (by repeat (first | (with_reducible first | exact HB.out | apply below_alloc | apply pw_below_drewN | apply below_drew1) | exact HB.out)) hb); have n1_ := Aside0.mk (hbox); have n2_ := Aside0.mk ((by rw [hg]; exact (below_size (by repeat (first | (with_reducible first | exact HB.out | apply below_alloc | apply pw_below_drewN | apply below_drew1) | exact HB.out))) : w.heap.size ≤ gb442)); have n3_ := n2_; clear HB; have HB := n0_; have BK442 := n1_; have GW442 := n2_; have GE442 := n3_; clear n0_ n1_ n2_ n3_; clear hb hbox hg; have hcz83 := blk_cell BK442.out; have hfz83 := blk_frozen BK442.out; have hfz83_13 := blk_frozen BK442.out 13) | ((with_reducible refine gate_callee (f := 65) rfl ?_); refine goesL_ (some 109) rfl rfl Try.func65 (by kernel_rfl) rfl #[.slice A0_13 l0_13.length c0_13, .int .u64 a1, .int .i64 a2, .int .i64 0] rfl (by (try simp only [List.map_toArray, List.map_cons, List.map_nil]); first | done | rfl | (simp only [List.length_drop, List.length_take]; rfl)) ?_; (with_reducible refine (ihg_watersmeetref07_many k (by omega) _ _ l0_13 a1 a2 0 t448 _ ?side1 ?side2 A81.out).mono ?_); (case side1 => repeat (first | exact (Kd.C_below HR0_13.out HB.out) | (with_reducible refine Kd.C_alloc ?_ _) | (with_reducible refine Kd.C_drewN ?_ _) | (with_reducible refine Kd.C_drew ?_))); (case side2 => exact HC0_13.out); rintro e w84 ⟨rfl, hb⟩; refine ⟨_, rfl, ?_⟩; have n0_ := Aside0.mk (blk_below (by (with_reducible repeat (first | refine blk_drewN ?_ _ | refine blk_drew ?_ | refine blk_alloc ?_ _)); exact BK442.out) hb); have n1_ := Aside0.mk (below_step (by repeat (first | (with_reducible first | exact HB.out | apply below_alloc | apply pw_below_drewN | apply below_drew1 | refine below_set ?_ GE442.out) | exact HB.out)) hb); clear BK442; clear HB; have BK442 := n0_; have HB := n1_; clear n0_ n1_; (try clear hb); (try clear hb2); (try clear hk); (try clear hi)))
      go_ret
      exact ⟨by first | rfl | (simp [errW_none, errW_some] <;> rfl) | (simp [*, errW_none, errW_some] <;> rfl), by repeat (first | (with_reducible first | exact HB.out | apply below_alloc | apply pw_below_drewN | apply below_drew1 | refine below_set ?_ GE442.out) | exact HB.out)⟩
     ·rw [if_neg c80] at H
      have c80b0 : (a0_0 == 5) = false := beq_eq_false_iff_ne.mpr c80
      have c80b1 : (a0_0 != 5) = true := bne_iff_ne.mpr c80
      by_cases c85 : a0_0 = 6
      ·rw [if_pos c85] at H
       have c85b0 : (a0_0 == 6) = true := beq_iff_eq.mpr c85
       have c85b1 : (a0_0 != 6) = false := bne_eq_false_iff_eq.mpr c85
       clear c85
       by_cases c86 : (l0_13.length : Int) > 0
       ·rw [if_pos c86] at H
        have c86b0 : decide (0 < (l0_13.length : Int)) = true := decide_eq_true c86
        have c86b1 : decide (0 < l0_13.length) = true := decide_eq_true (by omega)
        clear c86
        by_cases c87 : 0 < (l0_13.length : Int)
        ·rw [if_pos c87] at H
         have c87b0 : decide (0 < (l0_13.length : Int)) = true := decide_eq_true c87
         have c87b1 : decide (0 < l0_13.length) = true := decide_eq_true (by omega)
         clear c87
         replace H := Option.bind_eq_some_iff.mp H
         obtain ⟨t450, A880, H⟩ := H
         replace H : (some t450) = some r := H
         have A88 := Aside0.mk A880
         clear A880
         obtain rfl := Option.some.inj H
         go_enter Try.func27, Try.ntmps27
         go_wp2_with (first | ((with_reducible refine gate_dst (N := 3) rfl ?_); refine box_event ?hg (N := 3) ?hd (cs := #[.int .i64 a0_0, .int .i64 a0_1, .int .i64 a0_2, .int .i64 a0_3, .int .i64 a0_4, .int .i64 a0_5, .bool a0_6, .int .i64 a0_7, .int .i64 a0_8, .int .i64 a0_9, .int .i64 a0_10, .bool a0_11, .int .i64 a0_12, .slice A0_13 l0_13.length c0_13]) (t := 46) ?hr ?_; (case hd => rfl); (case hg => rfl); (case hr => first | (go_simp; done) | (go_simp; rfl)); intro gb442 hg w89 hbox hb; have n0_ := Aside0.mk (below_step (by repeat (first | (with_reducible first | exact HB.out | apply below_alloc | apply pw_below_drewN | apply below_drew1) | exact HB.out)) hb); have n1_ := Aside0.mk (hbox); have n2_ := Aside0.mk ((by rw [hg]; exact (below_size (by repeat (first | (with_reducible first | exact HB.out | apply below_alloc | apply pw_below_drewN | apply below_drew1) | exact HB.out))) : w.heap.size ≤ gb442)); have n3_ := n2_; clear HB; have HB := n0_; have BK442 := n1_; have GW442 := n2_; have GE442 := n3_; clear n0_ n1_ n2_ n3_; clear hb hbox hg; have hcz90 := blk_cell BK442.out; have hfz90 := blk_frozen BK442.out; have p449 : 0 ≤ (0 : Int) := (by omega); have q449 : 0 < (l0_13.length : Int) := of_decide_eq_true (by first | (with_reducible assumption) | assumption); obtain ⟨ad449, A449_13, c449_13, e449, hx449_0, hx449_1, hx449_2, hx449_3, hx449_4, hx449_5, hx449_6, hx449_7, hx449_8, hx449_9, hx449_10, hx449_11, hx449_12, hx449_13, hl449_13, hi449_13⟩ := at_T46 HR0_13.out 0 p449 q449; cases e449; have qi449 : (0 < l0_13.length) = True := eq_true (by omega); (try rw [show ((0 : Int)).toNat = 0 from rfl] at hx449_0); (try rw [show 0 * 14 = 0 from rfl] at hx449_0); (try rw [Addr.add_zero'] at hx449_0); (try rw [show ((0 : Int)).toNat = 0 from rfl] at hx449_1); (try rw [show 0 * 14 = 0 from rfl] at hx449_1); (try rw [Addr.add_zero'] at hx449_1); (try rw [show ((0 : Int)).toNat = 0 from rfl] at hx449_2); (try rw [show 0 * 14 = 0 from rfl] at hx449_2); (try rw [Addr.add_zero'] at hx449_2); (try rw [show ((0 : Int)).toNat = 0 from rfl] at hx449_3); (try rw [show 0 * 14 = 0 from rfl] at hx449_3); (try rw [Addr.add_zero'] at hx449_3); (try rw [show ((0 : Int)).toNat = 0 from rfl] at hx449_4); (try rw [show 0 * 14 = 0 from rfl] at hx449_4); (try rw [Addr.add_zero'] at hx449_4); (try rw [show ((0 : Int)).toNat = 0 from rfl] at hx449_5); (try rw [show 0 * 14 = 0 from rfl] at hx449_5); (try rw [Addr.add_zero'] at hx449_5); (try rw [show ((0 : Int)).toNat = 0 from rfl] at hx449_6); (try rw [show 0 * 14 = 0 from rfl] at hx449_6); (try rw [Addr.add_zero'] at hx449_6); (try rw [show ((0 : Int)).toNat = 0 from rfl] at hx449_7); (try rw [show 0 * 14 = 0 from rfl] at hx449_7); (try rw [Addr.add_zero'] at hx449_7); (try rw [show ((0 : Int)).toNat = 0 from rfl] at hx449_8); (try rw [show 0 * 14 = 0 from rfl] at hx449_8); (try rw [Addr.add_zero'] at hx449_8); (try rw [show ((0 : Int)).toNat = 0 from rfl] at hx449_9); (try rw [show 0 * 14 = 0 from rfl] at hx449_9); (try rw [Addr.add_zero'] at hx449_9); (try rw [show ((0 : Int)).toNat = 0 from rfl] at hx449_10); (try rw [show 0 * 14 = 0 from rfl] at hx449_10); (try rw [Addr.add_zero'] at hx449_10); (try rw [show ((0 : Int)).toNat = 0 from rfl] at hx449_11); (try rw [show 0 * 14 = 0 from rfl] at hx449_11); (try rw [Addr.add_zero'] at hx449_11); (try rw [show ((0 : Int)).toNat = 0 from rfl] at hx449_12); (try rw [show 0 * 14 = 0 from rfl] at hx449_12); (try rw [Addr.add_zero'] at hx449_12); (try rw [show ((0 : Int)).toNat = 0 from rfl] at hx449_13); (try rw [show 0 * 14 = 0 from rfl] at hx449_13); (try rw [Addr.add_zero'] at hx449_13); replace hx449_0 := (HB.out.cell (World.block_lt_of_cell? w _ hx449_0)).trans hx449_0; replace hx449_1 := (HB.out.cell (World.block_lt_of_cell? w _ hx449_1)).trans hx449_1; replace hx449_2 := (HB.out.cell (World.block_lt_of_cell? w _ hx449_2)).trans hx449_2; replace hx449_3 := (HB.out.cell (World.block_lt_of_cell? w _ hx449_3)).trans hx449_3; replace hx449_4 := (HB.out.cell (World.block_lt_of_cell? w _ hx449_4)).trans hx449_4; replace hx449_5 := (HB.out.cell (World.block_lt_of_cell? w _ hx449_5)).trans hx449_5; replace hx449_6 := (HB.out.cell (World.block_lt_of_cell? w _ hx449_6)).trans hx449_6; replace hx449_7 := (HB.out.cell (World.block_lt_of_cell? w _ hx449_7)).trans hx449_7; replace hx449_8 := (HB.out.cell (World.block_lt_of_cell? w _ hx449_8)).trans hx449_8; replace hx449_9 := (HB.out.cell (World.block_lt_of_cell? w _ hx449_9)).trans hx449_9; replace hx449_10 := (HB.out.cell (World.block_lt_of_cell? w _ hx449_10)).trans hx449_10; replace hx449_11 := (HB.out.cell (World.block_lt_of_cell? w _ hx449_11)).trans hx449_11; replace hx449_12 := (HB.out.cell (World.block_lt_of_cell? w _ hx449_12)).trans hx449_12; replace hx449_13 := (HB.out.cell (World.block_lt_of_cell? w _ hx449_13)).trans hx449_13; have HR449_13 := Aside0.mk hi449_13; have HC449_13 := Aside0.mk hl449_13; clear hi449_13 hl449_13; replace p449 := eq_true p449; replace q449 := eq_true q449) | ((with_reducible refine gate_callee (f := 27) rfl ?_); refine goesL_ (some 123) rfl rfl Try.func27 (by kernel_rfl) rfl #[.agg #[.int .i64 ((rd_T46 l0_13 0).f0), .int .i64 ((rd_T46 l0_13 0).f1), .int .i64 ((rd_T46 l0_13 0).f2), .int .i64 ((rd_T46 l0_13 0).f3.f0), .int .i64 ((rd_T46 l0_13 0).f3.f1), .int .i64 ((rd_T46 l0_13 0).f3.f2), .bool ((rd_T46 l0_13 0).f3.f3.f0), .int .i64 ((rd_T46 l0_13 0).f3.f3.f1), .int .i64 ((rd_T46 l0_13 0).f4.f0), .int .i64 ((rd_T46 l0_13 0).f4.f1), .int .i64 ((rd_T46 l0_13 0).f4.f2), .bool ((rd_T46 l0_13 0).f4.f3.f0), .int .i64 ((rd_T46 l0_13 0).f4.f3.f1), .slice A449_13 ((rd_T46 l0_13 0).f5).length c449_13], .int .u64 a1, .int .i64 (wrap64 (2 - a2))] rfl (by (try simp only [List.map_toArray, List.map_cons, List.map_nil]); first | done | rfl | (simp only [List.length_drop, List.length_take]; rfl)) ?_; (with_reducible refine (ih k (by omega) ((rd_T46 l0_13 0).f0) ((rd_T46 l0_13 0).f1) ((rd_T46 l0_13 0).f2) ((rd_T46 l0_13 0).f3.f0) ((rd_T46 l0_13 0).f3.f1) ((rd_T46 l0_13 0).f3.f2) ((rd_T46 l0_13 0).f3.f3.f0) ((rd_T46 l0_13 0).f3.f3.f1) ((rd_T46 l0_13 0).f4.f0) ((rd_T46 l0_13 0).f4.f1) ((rd_T46 l0_13 0).f4.f2) ((rd_T46 l0_13 0).f4.f3.f0) ((rd_T46 l0_13 0).f4.f3.f1) _ _ ((rd_T46 l0_13 0).f5) a1 (wrap64 (2 - a2)) t450 _ ?side1 ?side2 A88.out).mono ?_); (case side1 => repeat (first | exact (Kd.C_below HR449_13.out HB.out) | (with_reducible refine Kd.C_alloc ?_ _) | (with_reducible refine Kd.C_drewN ?_ _) | (with_reducible refine Kd.C_drew ?_))); (case side2 => exact HC449_13.out); rintro e w91 ⟨rfl, hb⟩; refine ⟨_, rfl, ?_⟩; have n0_ := Aside0.mk (blk_below (by (with_reducible repeat (first | refine blk_drewN ?_ _ | refine blk_drew ?_ | refine blk_alloc ?_ _)); exact BK442.out) hb); have n1_ := Aside0.mk (below_step (by repeat (first | (with_reducible first | exact HB.out | apply below_alloc | apply pw_below_drewN | apply below_drew1 | refine below_set ?_ GE442.out) | exact HB.out)) hb); clear BK442; clear HB; have BK442 := n0_; have HB := n1_; clear n0_ n1_; (try clear hb); (try clear hb2); (try clear hk); (try clear hi)))
         go_ret
         exact ⟨by first | rfl | (simp [errW_none, errW_some] <;> rfl) | (simp [*, errW_none, errW_some] <;> rfl), by repeat (first | (with_reducible first | exact HB.out | apply below_alloc | apply pw_below_drewN | apply below_drew1 | refine below_set ?_ GE442.out) | exact HB.out)⟩
        ·rw [if_neg c87] at H
         exact absurd H (by simp)
       ·rw [if_neg c86] at H
        have c86b0 : decide (0 < (l0_13.length : Int)) = false := decide_eq_false c86
        have c86b1 : decide (0 < l0_13.length) = false := decide_eq_false (by omega)
        clear c86
        obtain rfl := Option.some.inj H
        go_enter Try.func27, Try.ntmps27
        go_wp2_with (first | ((with_reducible refine gate_dst (N := 3) rfl ?_); refine box_event ?hg (N := 3) ?hd (cs := #[.int .i64 a0_0, .int .i64 a0_1, .int .i64 a0_2, .int .i64 a0_3, .int .i64 a0_4, .int .i64 a0_5, .bool a0_6, .int .i64 a0_7, .int .i64 a0_8, .int .i64 a0_9, .int .i64 a0_10, .bool a0_11, .int .i64 a0_12, .slice A0_13 l0_13.length c0_13]) (t := 46) ?hr ?_; (case hd => rfl); (case hg => rfl); (case hr => first | (go_simp; done) | (go_simp; rfl)); intro gb442 hg w92 hbox hb; have n0_ := Aside0.mk (below_step (by repeat (first | (with_reducible first | exact HB.out | apply below_alloc | apply pw_below_drewN | apply below_drew1) | exact HB.out)) hb); have n1_ := Aside0.mk (hbox); have n2_ := Aside0.mk ((by rw [hg]; exact (below_size (by repeat (first | (with_reducible first | exact HB.out | apply below_alloc | apply pw_below_drewN | apply below_drew1) | exact HB.out))) : w.heap.size ≤ gb442)); have n3_ := n2_; clear HB; have HB := n0_; have BK442 := n1_; have GW442 := n2_; have GE442 := n3_; clear n0_ n1_ n2_ n3_; clear hb hbox hg; have hcz93 := blk_cell BK442.out; have hfz93 := blk_frozen BK442.out; have hfz93_13 := blk_frozen BK442.out 13))
        go_ret
        exact ⟨by first | rfl | (simp [errW_none, errW_some] <;> rfl) | (simp [*, errW_none, errW_some] <;> rfl), by repeat (first | (with_reducible first | exact HB.out | apply below_alloc | apply pw_below_drewN | apply below_drew1 | refine below_set ?_ GE442.out) | exact HB.out)⟩
      ·rw [if_neg c85] at H
       have c85b0 : (a0_0 == 6) = false := beq_eq_false_iff_ne.mpr c85
       have c85b1 : (a0_0 != 6) = true := bne_iff_ne.mpr c85
       obtain rfl := Option.some.inj H
       go_enter Try.func27, Try.ntmps27
       go_wp2_with (first | ((with_reducible refine gate_dst (N := 3) rfl ?_); refine box_event ?hg (N := 3) ?hd (cs := #[.int .i64 a0_0, .int .i64 a0_1, .int .i64 a0_2, .int .i64 a0_3, .int .i64 a0_4, .int .i64 a0_5, .bool a0_6, .int .i64 a0_7, .int .i64 a0_8, .int .i64 a0_9, .int .i64 a0_10, .bool a0_11, .int .i64 a0_12, .slice A0_13 l0_13.length c0_13]) (t := 46) ?hr ?_; (case hd => rfl); (case hg => rfl); (case hr => first | (go_simp; done) | (go_simp; rfl)); intro gb442 hg w94 hbox hb; have n0_ := Aside0.mk (below_step (by repeat (first | (with_reducible first | exact HB.out | apply below_alloc | apply pw_below_drewN | apply below_drew1) | exact HB.out)) hb); have n1_ := Aside0.mk (hbox); have n2_ := Aside0.mk ((by rw [hg]; exact (below_size (by repeat (first | (with_reducible first | exact HB.out | apply below_alloc | apply pw_below_drewN | apply below_drew1) | exact HB.out))) : w.heap.size ≤ gb442)); have n3_ := n2_; clear HB; have HB := n0_; have BK442 := n1_; have GW442 := n2_; have GE442 := n3_; clear n0_ n1_ n2_ n3_; clear hb hbox hg; have hcz95 := blk_cell BK442.out; have hfz95 := blk_frozen BK442.out; have hfz95_13 := blk_frozen BK442.out 13))
       go_ret
       exact ⟨by first | rfl | (simp [errW_none, errW_some] <;> rfl) | (simp [*, errW_none, errW_some] <;> rfl), by repeat (first | (with_reducible first | exact HB.out | apply below_alloc | apply pw_below_drewN | apply below_drew1 | refine below_set ?_ GE442.out) | exact HB.out)⟩
/-! ### watersmeetref07_many: function 65 -/
set_option maxHeartbeats 8000000 in
set_option maxRecDepth 100000 in
theorem watersmeetref07_many.calls_of (k : Nat) (ih : ∀ j_, j_ < k → watersmeetref07_many.Says j_) (ihg_watersmeetref07_all : ∀ j_, j_ < k → watersmeetref07_all.Says j_) (ihg_watersmeetref07_Is : ∀ j_, j_ < k → watersmeetref07_Is.Says j_) (ihg_watersmeetref07_every : ∀ j_, j_ < k → watersmeetref07_every.Says j_) (ihg_watersmeetref07_some : ∀ j_, j_ < k → watersmeetref07_some.Says j_) : watersmeetref07_many.Says k := by
 unfold watersmeetref07_many.Says
 intro A0 c0 l0 a1 a2 a3 r w hr0 hc0 h
 cases k with
 | zero => exact absurd h (by simp [watersmeetref07_many.f])
 | succ k =>
 simp only [watersmeetref07_many.f] at h
 have HR0 := Aside0.mk hr0
 have HC0 := Aside0.mk hc0
 clear hr0 hc0
 have HB := Aside0.mk (Below.refl w.heap.size w)
 have H : ((watersmeetref07_all.f k l0 a1).bind fun t451 => (if t451 = true then (if a2 = a3 then ((watersmeetref07_every.f k l0 a1 a3 a3).bind fun t452 => (some t452)) else (if a2 = 1 then ((watersmeetref07_some.f k l0 a1 1).bind fun t453 => (if t453 = true then ((watersmeetref07_every.f k l0 a1 1 a3).bind fun t454 => (some t454)) else (some false))) else ((watersmeetref07_some.f k l0 a1 (wrap64 (2 - a3))).bind fun t455 => (some t455)))) else (some false))) = some r := h
 clear h
 replace H := Option.bind_eq_some_iff.mp H
 obtain ⟨t451, A50, H⟩ := H
 replace H : (if t451 = true then (if a2 = a3 then ((watersmeetref07_every.f k l0 a1 a3 a3).bind fun t452 => (some t452)) else (if a2 = 1 then ((watersmeetref07_some.f k l0 a1 1).bind fun t453 => (if t453 = true then ((watersmeetref07_every.f k l0 a1 1 a3).bind fun t454 => (some t454)) else (some false))) else ((watersmeetref07_some.f k l0 a1 (wrap64 (2 - a3))).bind fun t455 => (some t455)))) else (some false)) = some r := H
 have A5 := Aside0.mk A50
 clear A50
 by_cases c6 : t451 = true
 ·subst c6
  have H1 : (if a2 = a3 then ((watersmeetref07_every.f k l0 a1 a3 a3).bind fun t452 => (some t452)) else (if a2 = 1 then ((watersmeetref07_some.f k l0 a1 1).bind fun t453 => (if t453 = true then ((watersmeetref07_every.f k l0 a1 1 a3).bind fun t454 => (some t454)) else (some false))) else ((watersmeetref07_some.f k l0 a1 (wrap64 (2 - a3))).bind fun t455 => (some t455)))) = some r := by rw [if_pos rfl] at H; exact H
  clear H
  have H := H1
  clear H1
  by_cases c7 : a2 = a3
  ·rw [if_pos c7] at H
   have c7b0 : (a2 == a3) = true := beq_iff_eq.mpr c7
   have c7b1 : (a2 != a3) = false := bne_eq_false_iff_eq.mpr c7
   clear c7
   replace H := Option.bind_eq_some_iff.mp H
   obtain ⟨t452, A80, H⟩ := H
   replace H : (some t452) = some r := H
   have A8 := Aside0.mk A80
   clear A80
   obtain rfl := Option.some.inj H
   go_enter Try.func65, Try.ntmps65
   go_wp2_with (first | ((with_reducible refine gate_callee (f := 93) rfl ?_); refine goesL_ (some 11) rfl rfl Try.func93 (by kernel_rfl) rfl #[.slice A0 l0.length c0, .int .u64 a1] rfl (by (try simp only [List.map_toArray, List.map_cons, List.map_nil]); first | done | rfl | (simp only [List.length_drop, List.length_take]; rfl)) ?_; (with_reducible refine (ihg_watersmeetref07_all k (by omega) _ _ l0 a1 true _ ?side1 ?side2 A5.out).mono ?_); (case side1 => repeat (first | exact HR0.out | (with_reducible refine Kd.C_alloc ?_ _) | (with_reducible refine Kd.C_drewN ?_ _) | (with_reducible refine Kd.C_drew ?_))); (case side2 => exact HC0.out); rintro e w9 ⟨rfl, hb⟩; refine ⟨_, rfl, ?_⟩; have n0_ := Aside0.mk (below_step (by repeat (first | (with_reducible first | exact HB.out | apply below_alloc | apply pw_below_drewN | apply below_drew1) | exact HB.out)) hb); clear HB; have HB := n0_; clear n0_; (try clear hb); (try clear hb2); (try clear hk); (try clear hi)) | ((with_reducible refine gate_callee (f := 94) rfl ?_); refine goesL_ (some 20) rfl rfl Try.func94 (by kernel_rfl) rfl #[.slice A0 l0.length c0, .int .u64 a1, .int .i64 a3, .int .i64 a3] rfl (by (try simp only [List.map_toArray, List.map_cons, List.map_nil]); first | done | rfl | (simp only [List.length_drop, List.length_take]; rfl)) ?_; (with_reducible refine (ihg_watersmeetref07_every k (by omega) _ _ l0 a1 a3 a3 t452 _ ?side1 ?side2 A8.out).mono ?_); (case side1 => repeat (first | exact (Kd.C_below HR0.out HB.out) | (with_reducible refine Kd.C_alloc ?_ _) | (with_reducible refine Kd.C_drewN ?_ _) | (with_reducible refine Kd.C_drew ?_))); (case side2 => exact HC0.out); rintro e w10 ⟨rfl, hb⟩; refine ⟨_, rfl, ?_⟩; have n0_ := Aside0.mk (below_step (by repeat (first | (with_reducible first | exact HB.out | apply below_alloc | apply pw_below_drewN | apply below_drew1) | exact HB.out)) hb); clear HB; have HB := n0_; clear n0_; (try clear hb); (try clear hb2); (try clear hk); (try clear hi)))
   go_ret
   exact ⟨by first | rfl | (simp [errW_none, errW_some] <;> rfl) | (simp [*, errW_none, errW_some] <;> rfl), by repeat (first | (with_reducible first | exact HB.out | apply below_alloc | apply pw_below_drewN | apply below_drew1) | exact HB.out)⟩
  ·rw [if_neg c7] at H
   have c7b0 : (a2 == a3) = false := beq_eq_false_iff_ne.mpr c7
   have c7b1 : (a2 != a3) = true := bne_iff_ne.mpr c7
   by_cases c11 : a2 = 1
   ·rw [if_pos c11] at H
    have c11b0 : (a2 == 1) = true := beq_iff_eq.mpr c11
    have c11b1 : (a2 != 1) = false := bne_eq_false_iff_eq.mpr c11
    clear c11
    replace H := Option.bind_eq_some_iff.mp H
    obtain ⟨t453, A120, H⟩ := H
    replace H : (if t453 = true then ((watersmeetref07_every.f k l0 a1 1 a3).bind fun t454 => (some t454)) else (some false)) = some r := H
    have A12 := Aside0.mk A120
    clear A120
    by_cases c13 : t453 = true
    ·subst c13
     have H1 : ((watersmeetref07_every.f k l0 a1 1 a3).bind fun t454 => (some t454)) = some r := by rw [if_pos rfl] at H; exact H
     clear H
     have H := H1
     clear H1
     replace H := Option.bind_eq_some_iff.mp H
     obtain ⟨t454, A140, H⟩ := H
     replace H : (some t454) = some r := H
     have A14 := Aside0.mk A140
     clear A140
     obtain rfl := Option.some.inj H
     go_enter Try.func65, Try.ntmps65
     go_wp2_with (first | ((with_reducible refine gate_callee (f := 93) rfl ?_); refine goesL_ (some 11) rfl rfl Try.func93 (by kernel_rfl) rfl #[.slice A0 l0.length c0, .int .u64 a1] rfl (by (try simp only [List.map_toArray, List.map_cons, List.map_nil]); first | done | rfl | (simp only [List.length_drop, List.length_take]; rfl)) ?_; (with_reducible refine (ihg_watersmeetref07_all k (by omega) _ _ l0 a1 true _ ?side1 ?side2 A5.out).mono ?_); (case side1 => repeat (first | exact HR0.out | (with_reducible refine Kd.C_alloc ?_ _) | (with_reducible refine Kd.C_drewN ?_ _) | (with_reducible refine Kd.C_drew ?_))); (case side2 => exact HC0.out); rintro e w15 ⟨rfl, hb⟩; refine ⟨_, rfl, ?_⟩; have n0_ := Aside0.mk (below_step (by repeat (first | (with_reducible first | exact HB.out | apply below_alloc | apply pw_below_drewN | apply below_drew1) | exact HB.out)) hb); clear HB; have HB := n0_; clear n0_; (try clear hb); (try clear hb2); (try clear hk); (try clear hi)) | ((with_reducible refine gate_callee (f := 95) rfl ?_); refine goesL_ (some 25) rfl rfl Try.func95 (by kernel_rfl) rfl #[.slice A0 l0.length c0, .int .u64 a1, .int .i64 1] rfl (by (try simp only [List.map_toArray, List.map_cons, List.map_nil]); first | done | rfl | (simp only [List.length_drop, List.length_take]; rfl)) ?_; (with_reducible refine (ihg_watersmeetref07_some k (by omega) _ _ l0 a1 1 true _ ?side1 ?side2 A12.out).mono ?_); (case side1 => repeat (first | exact (Kd.C_below HR0.out HB.out) | (with_reducible refine Kd.C_alloc ?_ _) | (with_reducible refine Kd.C_drewN ?_ _) | (with_reducible refine Kd.C_drew ?_))); (case side2 => exact HC0.out); rintro e w16 ⟨rfl, hb⟩; refine ⟨_, rfl, ?_⟩; have n0_ := Aside0.mk (below_step (by repeat (first | (with_reducible first | exact HB.out | apply below_alloc | apply pw_below_drewN | apply below_drew1) | exact HB.out)) hb); clear HB; have HB := n0_; clear n0_; (try clear hb); (try clear hb2); (try clear hk); (try clear hi)) | (go_at_call 94; (with_reducible refine (ihg_watersmeetref07_every k (by omega) _ _ l0 a1 1 a3 t454 _ ?side1 ?side2 A14.out).mono ?_); (case side1 => repeat (first | exact (Kd.C_below HR0.out HB.out) | (with_reducible refine Kd.C_alloc ?_ _) | (with_reducible refine Kd.C_drewN ?_ _) | (with_reducible refine Kd.C_drew ?_))); (case side2 => exact HC0.out); rintro e w17 ⟨rfl, hb⟩; have n0_ := Aside0.mk (below_step (by repeat (first | (with_reducible first | exact HB.out | apply below_alloc | apply pw_below_drewN | apply below_drew1) | exact HB.out)) hb); clear HB; have HB := n0_; clear n0_; (try clear hb); (try clear hb2); (try clear hk); (try clear hi)))
     go_ret
     exact ⟨by first | rfl | (simp [errW_none, errW_some] <;> rfl) | (simp [*, errW_none, errW_some] <;> rfl), by repeat (first | (with_reducible first | exact HB.out | apply below_alloc | apply pw_below_drewN | apply below_drew1) | exact HB.out)⟩
    ·replace c13 := Bool.eq_false_iff.mpr c13
     subst c13
     have H1 : (some false) = some r := by rw [if_neg (show ¬ (false = true) by decide)] at H; exact H
     clear H
     have H := H1
     clear H1
     obtain rfl := Option.some.inj H
     go_enter Try.func65, Try.ntmps65
     go_wp2_with (first | ((with_reducible refine gate_callee (f := 93) rfl ?_); refine goesL_ (some 11) rfl rfl Try.func93 (by kernel_rfl) rfl #[.slice A0 l0.length c0, .int .u64 a1] rfl (by (try simp only [List.map_toArray, List.map_cons, List.map_nil]); first | done | rfl | (simp only [List.length_drop, List.length_take]; rfl)) ?_; (with_reducible refine (ihg_watersmeetref07_all k (by omega) _ _ l0 a1 true _ ?side1 ?side2 A5.out).mono ?_); (case side1 => repeat (first | exact HR0.out | (with_reducible refine Kd.C_alloc ?_ _) | (with_reducible refine Kd.C_drewN ?_ _) | (with_reducible refine Kd.C_drew ?_))); (case side2 => exact HC0.out); rintro e w18 ⟨rfl, hb⟩; refine ⟨_, rfl, ?_⟩; have n0_ := Aside0.mk (below_step (by repeat (first | (with_reducible first | exact HB.out | apply below_alloc | apply pw_below_drewN | apply below_drew1) | exact HB.out)) hb); clear HB; have HB := n0_; clear n0_; (try clear hb); (try clear hb2); (try clear hk); (try clear hi)) | ((with_reducible refine gate_callee (f := 95) rfl ?_); refine goesL_ (some 25) rfl rfl Try.func95 (by kernel_rfl) rfl #[.slice A0 l0.length c0, .int .u64 a1, .int .i64 1] rfl (by (try simp only [List.map_toArray, List.map_cons, List.map_nil]); first | done | rfl | (simp only [List.length_drop, List.length_take]; rfl)) ?_; (with_reducible refine (ihg_watersmeetref07_some k (by omega) _ _ l0 a1 1 false _ ?side1 ?side2 A12.out).mono ?_); (case side1 => repeat (first | exact (Kd.C_below HR0.out HB.out) | (with_reducible refine Kd.C_alloc ?_ _) | (with_reducible refine Kd.C_drewN ?_ _) | (with_reducible refine Kd.C_drew ?_))); (case side2 => exact HC0.out); rintro e w19 ⟨rfl, hb⟩; refine ⟨_, rfl, ?_⟩; have n0_ := Aside0.mk (below_step (by repeat (first | (with_reducible first | exact HB.out | apply below_alloc | apply pw_below_drewN | apply below_drew1) | exact HB.out)) hb); clear HB; have HB := n0_; clear n0_; (try clear hb); (try clear hb2); (try clear hk); (try clear hi)))
     go_ret
     exact ⟨by first | rfl | (simp [errW_none, errW_some] <;> rfl) | (simp [*, errW_none, errW_some] <;> rfl), by repeat (first | (with_reducible first | exact HB.out | apply below_alloc | apply pw_below_drewN | apply below_drew1) | exact HB.out)⟩
   ·rw [if_neg c11] at H
    have c11b0 : (a2 == 1) = false := beq_eq_false_iff_ne.mpr c11
    have c11b1 : (a2 != 1) = true := bne_iff_ne.mpr c11
    replace H := Option.bind_eq_some_iff.mp H
    obtain ⟨t455, A200, H⟩ := H
    replace H : (some t455) = some r := H
    have A20 := Aside0.mk A200
    clear A200
    obtain rfl := Option.some.inj H
    go_enter Try.func65, Try.ntmps65
    go_wp2_with (first | ((with_reducible refine gate_callee (f := 93) rfl ?_); refine goesL_ (some 11) rfl rfl Try.func93 (by kernel_rfl) rfl #[.slice A0 l0.length c0, .int .u64 a1] rfl (by (try simp only [List.map_toArray, List.map_cons, List.map_nil]); first | done | rfl | (simp only [List.length_drop, List.length_take]; rfl)) ?_; (with_reducible refine (ihg_watersmeetref07_all k (by omega) _ _ l0 a1 true _ ?side1 ?side2 A5.out).mono ?_); (case side1 => repeat (first | exact HR0.out | (with_reducible refine Kd.C_alloc ?_ _) | (with_reducible refine Kd.C_drewN ?_ _) | (with_reducible refine Kd.C_drew ?_))); (case side2 => exact HC0.out); rintro e w21 ⟨rfl, hb⟩; refine ⟨_, rfl, ?_⟩; have n0_ := Aside0.mk (below_step (by repeat (first | (with_reducible first | exact HB.out | apply below_alloc | apply pw_below_drewN | apply below_drew1) | exact HB.out)) hb); clear HB; have HB := n0_; clear n0_; (try clear hb); (try clear hb2); (try clear hk); (try clear hi)) | ((with_reducible refine gate_callee (f := 95) rfl ?_); refine goesL_ (some 36) rfl rfl Try.func95 (by kernel_rfl) rfl #[.slice A0 l0.length c0, .int .u64 a1, .int .i64 (wrap64 (2 - a3))] rfl (by (try simp only [List.map_toArray, List.map_cons, List.map_nil]); first | done | rfl | (simp only [List.length_drop, List.length_take]; rfl)) ?_; (with_reducible refine (ihg_watersmeetref07_some k (by omega) _ _ l0 a1 (wrap64 (2 - a3)) t455 _ ?side1 ?side2 A20.out).mono ?_); (case side1 => repeat (first | exact (Kd.C_below HR0.out HB.out) | (with_reducible refine Kd.C_alloc ?_ _) | (with_reducible refine Kd.C_drewN ?_ _) | (with_reducible refine Kd.C_drew ?_))); (case side2 => exact HC0.out); rintro e w22 ⟨rfl, hb⟩; refine ⟨_, rfl, ?_⟩; have n0_ := Aside0.mk (below_step (by repeat (first | (with_reducible first | exact HB.out | apply below_alloc | apply pw_below_drewN | apply below_drew1) | exact HB.out)) hb); clear HB; have HB := n0_; clear n0_; (try clear hb); (try clear hb2); (try clear hk); (try clear hi)))
    go_ret
    exact ⟨by first | rfl | (simp [errW_none, errW_some] <;> rfl) | (simp [*, errW_none, errW_some] <;> rfl), by repeat (first | (with_reducible first | exact HB.out | apply below_alloc | apply pw_below_drewN | apply below_drew1) | exact HB.out)⟩
 ·replace c6 := Bool.eq_false_iff.mpr c6
  subst c6
  have H1 : (some false) = some r := by rw [if_neg (show ¬ (false = true) by decide)] at H; exact H
  clear H
  have H := H1
  clear H1
  obtain rfl := Option.some.inj H
  go_enter Try.func65, Try.ntmps65
  go_wp2_with (first | ((with_reducible refine gate_callee (f := 93) rfl ?_); refine goesL_ (some 11) rfl rfl Try.func93 (by kernel_rfl) rfl #[.slice A0 l0.length c0, .int .u64 a1] rfl (by (try simp only [List.map_toArray, List.map_cons, List.map_nil]); first | done | rfl | (simp only [List.length_drop, List.length_take]; rfl)) ?_; (with_reducible refine (ihg_watersmeetref07_all k (by omega) _ _ l0 a1 false _ ?side1 ?side2 A5.out).mono ?_); (case side1 => repeat (first | exact HR0.out | (with_reducible refine Kd.C_alloc ?_ _) | (with_reducible refine Kd.C_drewN ?_ _) | (with_reducible refine Kd.C_drew ?_))); (case side2 => exact HC0.out); rintro e w23 ⟨rfl, hb⟩; refine ⟨_, rfl, ?_⟩; have n0_ := Aside0.mk (below_step (by repeat (first | (with_reducible first | exact HB.out | apply below_alloc | apply pw_below_drewN | apply below_drew1) | exact HB.out)) hb); clear HB; have HB := n0_; clear n0_; (try clear hb); (try clear hb2); (try clear hk); (try clear hi)))
  go_ret
  exact ⟨by first | rfl | (simp [errW_none, errW_some] <;> rfl) | (simp [*, errW_none, errW_some] <;> rfl), by repeat (first | (with_reducible first | exact HB.out | apply below_alloc | apply pw_below_drewN | apply below_drew1) | exact HB.out)⟩
/-! ### watersmeetref07_every: function 94 -/
set_option maxHeartbeats 8000000 in
set_option maxRecDepth 100000 in
theorem watersmeetref07_every.calls_of (k : Nat) (ih : ∀ j_, j_ < k → watersmeetref07_every.Says j_) (ihg_watersmeetref07_all : ∀ j_, j_ < k → watersmeetref07_all.Says j_) (ihg_watersmeetref07_Is : ∀ j_, j_ < k → watersmeetref07_Is.Says j_) (ihg_watersmeetref07_many : ∀ j_, j_ < k → watersmeetref07_many.Says j_) (ihg_watersmeetref07_some : ∀ j_, j_ < k → watersmeetref07_some.Says j_) : watersmeetref07_every.Says k := by
 unfold watersmeetref07_every.Says
 intro A0 c0 l0 a1 a2 a3 r w hr0 hc0 h
 cases k with
 | zero => exact absurd h (by simp [watersmeetref07_every.f])
 | succ k =>
 simp only [watersmeetref07_every.f] at h
 have hu46 := Try.underlying46
 have HR0 := Aside0.mk hr0
 have HC0 := Aside0.mk hc0
 clear hr0 hc0
 have HB := Aside0.mk (Below.refl w.heap.size w)
 have H : (watersmeetref07_every.l0 k l0 a1 a2 a3 0) = some r := h
 clear h
 have H' := Aside0.mk H
 clear H
 go_enter Try.func94, Try.ntmps94
 go_wp2
 go_loopg [9] k (fun kq v9 w' => ∃ (x9_1 : Int), v9 = .int .i64 x9_1 ∧ Aside0 (watersmeetref07_every.l0 kq l0 a1 a2 a3 x9_1 = some r) ∧ Aside0 (kq ≤ k) ∧ Aside0 (Below w.heap.size w w'))
 case atStart => exact ⟨(0), (by first | rfl | (simp; done) | (simp [*]; done)), H', ⟨Nat.le_refl _⟩, ⟨by repeat (first | (with_reducible first | exact HB.out | apply below_alloc | apply pw_below_drewN | apply below_drew1) | exact HB.out)⟩⟩
 case round =>
  clear H'
  try clear p2
  obtain ⟨x9_1, rfl, HA, HK1, HB⟩ := hrel
  cases gk with
  | zero => exact absurd HA.out (by simp [watersmeetref07_every.l0])
  | succ k1 =>
   have H := HA.out
   clear HA
   simp only [watersmeetref07_every.l0] at H
   by_cases c5 : x9_1 < (l0.length : Int)
   ·rw [if_pos c5] at H
    have c5b0 : decide (x9_1 < (l0.length : Int)) = true := decide_eq_true c5
    clear c5
    by_cases c6 : 0 ≤ x9_1
    ·rw [if_pos c6] at H
     have c6b0 : decide (0 ≤ x9_1) = true := decide_eq_true c6
     clear c6
     replace H := Option.bind_eq_some_iff.mp H
     obtain ⟨t457, A70, H⟩ := H
     replace H : (if t457 = true then (watersmeetref07_every.l0 k1 l0 a1 a2 a3 (wrap64 (x9_1 + 1))) else ((watersmeetref07_Is.f k1 ((rd_T46 l0 x9_1).f0) ((rd_T46 l0 x9_1).f1) ((rd_T46 l0 x9_1).f2) ((rd_T46 l0 x9_1).f3.f0) ((rd_T46 l0 x9_1).f3.f1) ((rd_T46 l0 x9_1).f3.f2) ((rd_T46 l0 x9_1).f3.f3.f0) ((rd_T46 l0 x9_1).f3.f3.f1) ((rd_T46 l0 x9_1).f4.f0) ((rd_T46 l0 x9_1).f4.f1) ((rd_T46 l0 x9_1).f4.f2) ((rd_T46 l0 x9_1).f4.f3.f0) ((rd_T46 l0 x9_1).f4.f3.f1) ((rd_T46 l0 x9_1).f5) a1 a3).bind fun t459 => (if t459 = true then (watersmeetref07_every.l0 k1 l0 a1 a2 a3 (wrap64 (x9_1 + 1))) else (some false)))) = some r := H
     have A7 := Aside0.mk A70
     clear A70
     by_cases c8 : t457 = true
     ·subst c8
      have H1 : (watersmeetref07_every.l0 k1 l0 a1 a2 a3 (wrap64 (x9_1 + 1))) = some r := by rw [if_pos rfl] at H; exact H
      clear H
      have H := H1
      clear H1
      have H' := Aside0.mk H
      clear H
      have p456 : 0 ≤ (x9_1 : Int) := of_decide_eq_true (by first | (with_reducible assumption) | assumption)
      have q456 : x9_1 < (l0.length : Int) := of_decide_eq_true (by first | (with_reducible assumption) | assumption)
      obtain ⟨ad456, A456_13, c456_13, e456, hx456_0, hx456_1, hx456_2, hx456_3, hx456_4, hx456_5, hx456_6, hx456_7, hx456_8, hx456_9, hx456_10, hx456_11, hx456_12, hx456_13, hl456_13, hi456_13⟩ := at_T46 HR0.out x9_1 p456 q456
      cases e456
      replace hx456_0 := (HB.out.cell (World.block_lt_of_cell? w _ hx456_0)).trans hx456_0
      replace hx456_1 := (HB.out.cell (World.block_lt_of_cell? w _ hx456_1)).trans hx456_1
      replace hx456_2 := (HB.out.cell (World.block_lt_of_cell? w _ hx456_2)).trans hx456_2
      replace hx456_3 := (HB.out.cell (World.block_lt_of_cell? w _ hx456_3)).trans hx456_3
      replace hx456_4 := (HB.out.cell (World.block_lt_of_cell? w _ hx456_4)).trans hx456_4
      replace hx456_5 := (HB.out.cell (World.block_lt_of_cell? w _ hx456_5)).trans hx456_5
      replace hx456_6 := (HB.out.cell (World.block_lt_of_cell? w _ hx456_6)).trans hx456_6
      replace hx456_7 := (HB.out.cell (World.block_lt_of_cell? w _ hx456_7)).trans hx456_7
      replace hx456_8 := (HB.out.cell (World.block_lt_of_cell? w _ hx456_8)).trans hx456_8
      replace hx456_9 := (HB.out.cell (World.block_lt_of_cell? w _ hx456_9)).trans hx456_9
      replace hx456_10 := (HB.out.cell (World.block_lt_of_cell? w _ hx456_10)).trans hx456_10
      replace hx456_11 := (HB.out.cell (World.block_lt_of_cell? w _ hx456_11)).trans hx456_11
      replace hx456_12 := (HB.out.cell (World.block_lt_of_cell? w _ hx456_12)).trans hx456_12
      replace hx456_13 := (HB.out.cell (World.block_lt_of_cell? w _ hx456_13)).trans hx456_13
      have HR456_13 := Aside0.mk hi456_13
      have HC456_13 := Aside0.mk hl456_13
      clear hi456_13 hl456_13
      replace p456 := eq_true p456
      replace q456 := eq_true q456
      go_wp2_with (first | ((with_reducible refine gate_callee (f := 27) rfl ?_); refine goesL_ (some 22) rfl rfl Try.func27 (by kernel_rfl) rfl #[.agg #[.int .i64 ((rd_T46 l0 x9_1).f0), .int .i64 ((rd_T46 l0 x9_1).f1), .int .i64 ((rd_T46 l0 x9_1).f2), .int .i64 ((rd_T46 l0 x9_1).f3.f0), .int .i64 ((rd_T46 l0 x9_1).f3.f1), .int .i64 ((rd_T46 l0 x9_1).f3.f2), .bool ((rd_T46 l0 x9_1).f3.f3.f0), .int .i64 ((rd_T46 l0 x9_1).f3.f3.f1), .int .i64 ((rd_T46 l0 x9_1).f4.f0), .int .i64 ((rd_T46 l0 x9_1).f4.f1), .int .i64 ((rd_T46 l0 x9_1).f4.f2), .bool ((rd_T46 l0 x9_1).f4.f3.f0), .int .i64 ((rd_T46 l0 x9_1).f4.f3.f1), .slice A456_13 ((rd_T46 l0 x9_1).f5).length c456_13], .int .u64 a1, .int .i64 a2] rfl (by (try simp only [List.map_toArray, List.map_cons, List.map_nil]); first | done | rfl | (simp only [List.length_drop, List.length_take]; rfl)) ?_; (with_reducible refine (ihg_watersmeetref07_Is k1 (by have := HK1.out; omega) ((rd_T46 l0 x9_1).f0) ((rd_T46 l0 x9_1).f1) ((rd_T46 l0 x9_1).f2) ((rd_T46 l0 x9_1).f3.f0) ((rd_T46 l0 x9_1).f3.f1) ((rd_T46 l0 x9_1).f3.f2) ((rd_T46 l0 x9_1).f3.f3.f0) ((rd_T46 l0 x9_1).f3.f3.f1) ((rd_T46 l0 x9_1).f4.f0) ((rd_T46 l0 x9_1).f4.f1) ((rd_T46 l0 x9_1).f4.f2) ((rd_T46 l0 x9_1).f4.f3.f0) ((rd_T46 l0 x9_1).f4.f3.f1) _ _ ((rd_T46 l0 x9_1).f5) a1 a2 true _ ?side1 ?side2 A7.out).mono ?_); (case side1 => repeat (first | exact (Kd.C_below HR456_13.out HB.out) | (with_reducible refine Kd.C_alloc ?_ _) | (with_reducible refine Kd.C_drewN ?_ _) | (with_reducible refine Kd.C_drew ?_))); (case side2 => exact HC456_13.out); rintro e w9 ⟨rfl, hb⟩; refine ⟨_, rfl, ?_⟩; have n0_ := Aside0.mk (below_step (by repeat (first | (with_reducible first | exact HB.out | apply below_alloc | apply pw_below_drewN | apply below_drew1) | exact HB.out)) hb); clear HB; have HB := n0_; clear n0_; (try clear hb); (try clear hb2); (try clear hk); (try clear hi)))
      go_roundg k1
      case measure => have := HK1.out; omega
      case rel => exact ⟨(wrap64 (x9_1 + 1)), (by first | rfl | (simp; done) | (simp [*]; done)), H', ⟨by have := HK1.out; omega⟩, ⟨by repeat (first | (with_reducible first | exact HB.out | apply below_alloc | apply pw_below_drewN | apply below_drew1) | exact HB.out)⟩⟩
     ·replace c8 := Bool.eq_false_iff.mpr c8
      subst c8
      have H1 : ((watersmeetref07_Is.f k1 ((rd_T46 l0 x9_1).f0) ((rd_T46 l0 x9_1).f1) ((rd_T46 l0 x9_1).f2) ((rd_T46 l0 x9_1).f3.f0) ((rd_T46 l0 x9_1).f3.f1) ((rd_T46 l0 x9_1).f3.f2) ((rd_T46 l0 x9_1).f3.f3.f0) ((rd_T46 l0 x9_1).f3.f3.f1) ((rd_T46 l0 x9_1).f4.f0) ((rd_T46 l0 x9_1).f4.f1) ((rd_T46 l0 x9_1).f4.f2) ((rd_T46 l0 x9_1).f4.f3.f0) ((rd_T46 l0 x9_1).f4.f3.f1) ((rd_T46 l0 x9_1).f5) a1 a3).bind fun t459 => (if t459 = true then (watersmeetref07_every.l0 k1 l0 a1 a2 a3 (wrap64 (x9_1 + 1))) else (some false))) = some r := by rw [if_neg (show ¬ (false = true) by decide)] at H; exact H
      clear H
      have H := H1
      clear H1
      replace H := Option.bind_eq_some_iff.mp H
      obtain ⟨t459, A100, H⟩ := H
      replace H : (if t459 = true then (watersmeetref07_every.l0 k1 l0 a1 a2 a3 (wrap64 (x9_1 + 1))) else (some false)) = some r := H
      have A10 := Aside0.mk A100
      clear A100
      by_cases c11 : t459 = true
      ·subst c11
       have H1 : (watersmeetref07_every.l0 k1 l0 a1 a2 a3 (wrap64 (x9_1 + 1))) = some r := by rw [if_pos rfl] at H; exact H
       clear H
       have H := H1
       clear H1
       have H' := Aside0.mk H
       clear H
       have p456 : 0 ≤ (x9_1 : Int) := of_decide_eq_true (by first | (with_reducible assumption) | assumption)
       have q456 : x9_1 < (l0.length : Int) := of_decide_eq_true (by first | (with_reducible assumption) | assumption)
       obtain ⟨ad456, A456_13, c456_13, e456, hx456_0, hx456_1, hx456_2, hx456_3, hx456_4, hx456_5, hx456_6, hx456_7, hx456_8, hx456_9, hx456_10, hx456_11, hx456_12, hx456_13, hl456_13, hi456_13⟩ := at_T46 HR0.out x9_1 p456 q456
       cases e456
       replace hx456_0 := (HB.out.cell (World.block_lt_of_cell? w _ hx456_0)).trans hx456_0
       replace hx456_1 := (HB.out.cell (World.block_lt_of_cell? w _ hx456_1)).trans hx456_1
       replace hx456_2 := (HB.out.cell (World.block_lt_of_cell? w _ hx456_2)).trans hx456_2
       replace hx456_3 := (HB.out.cell (World.block_lt_of_cell? w _ hx456_3)).trans hx456_3
       replace hx456_4 := (HB.out.cell (World.block_lt_of_cell? w _ hx456_4)).trans hx456_4
       replace hx456_5 := (HB.out.cell (World.block_lt_of_cell? w _ hx456_5)).trans hx456_5
       replace hx456_6 := (HB.out.cell (World.block_lt_of_cell? w _ hx456_6)).trans hx456_6
       replace hx456_7 := (HB.out.cell (World.block_lt_of_cell? w _ hx456_7)).trans hx456_7
       replace hx456_8 := (HB.out.cell (World.block_lt_of_cell? w _ hx456_8)).trans hx456_8
       replace hx456_9 := (HB.out.cell (World.block_lt_of_cell? w _ hx456_9)).trans hx456_9
       replace hx456_10 := (HB.out.cell (World.block_lt_of_cell? w _ hx456_10)).trans hx456_10
       replace hx456_11 := (HB.out.cell (World.block_lt_of_cell? w _ hx456_11)).trans hx456_11
       replace hx456_12 := (HB.out.cell (World.block_lt_of_cell? w _ hx456_12)).trans hx456_12
       replace hx456_13 := (HB.out.cell (World.block_lt_of_cell? w _ hx456_13)).trans hx456_13
       have HR456_13 := Aside0.mk hi456_13
       have HC456_13 := Aside0.mk hl456_13
       clear hi456_13 hl456_13
       replace p456 := eq_true p456
       replace q456 := eq_true q456
       go_wp2_with (first | ((with_reducible refine gate_callee (f := 27) rfl ?_); refine goesL_ (some 22) rfl rfl Try.func27 (by kernel_rfl) rfl #[.agg #[.int .i64 ((rd_T46 l0 x9_1).f0), .int .i64 ((rd_T46 l0 x9_1).f1), .int .i64 ((rd_T46 l0 x9_1).f2), .int .i64 ((rd_T46 l0 x9_1).f3.f0), .int .i64 ((rd_T46 l0 x9_1).f3.f1), .int .i64 ((rd_T46 l0 x9_1).f3.f2), .bool ((rd_T46 l0 x9_1).f3.f3.f0), .int .i64 ((rd_T46 l0 x9_1).f3.f3.f1), .int .i64 ((rd_T46 l0 x9_1).f4.f0), .int .i64 ((rd_T46 l0 x9_1).f4.f1), .int .i64 ((rd_T46 l0 x9_1).f4.f2), .bool ((rd_T46 l0 x9_1).f4.f3.f0), .int .i64 ((rd_T46 l0 x9_1).f4.f3.f1), .slice A456_13 ((rd_T46 l0 x9_1).f5).length c456_13], .int .u64 a1, .int .i64 a2] rfl (by (try simp only [List.map_toArray, List.map_cons, List.map_nil]); first | done | rfl | (simp only [List.length_drop, List.length_take]; rfl)) ?_; (with_reducible refine (ihg_watersmeetref07_Is k1 (by have := HK1.out; omega) ((rd_T46 l0 x9_1).f0) ((rd_T46 l0 x9_1).f1) ((rd_T46 l0 x9_1).f2) ((rd_T46 l0 x9_1).f3.f0) ((rd_T46 l0 x9_1).f3.f1) ((rd_T46 l0 x9_1).f3.f2) ((rd_T46 l0 x9_1).f3.f3.f0) ((rd_T46 l0 x9_1).f3.f3.f1) ((rd_T46 l0 x9_1).f4.f0) ((rd_T46 l0 x9_1).f4.f1) ((rd_T46 l0 x9_1).f4.f2) ((rd_T46 l0 x9_1).f4.f3.f0) ((rd_T46 l0 x9_1).f4.f3.f1) _ _ ((rd_T46 l0 x9_1).f5) a1 a2 false _ ?side1 ?side2 A7.out).mono ?_); (case side1 => repeat (first | exact (Kd.C_below HR456_13.out HB.out) | (with_reducible refine Kd.C_alloc ?_ _) | (with_reducible refine Kd.C_drewN ?_ _) | (with_reducible refine Kd.C_drew ?_))); (case side2 => exact HC456_13.out); rintro e w12 ⟨rfl, hb⟩; refine ⟨_, rfl, ?_⟩; have n0_ := Aside0.mk (below_step (by repeat (first | (with_reducible first | exact HB.out | apply below_alloc | apply pw_below_drewN | apply below_drew1) | exact HB.out)) hb); clear HB; have HB := n0_; clear n0_; (try clear hb); (try clear hb2); (try clear hk); (try clear hi); have p458 : 0 ≤ (x9_1 : Int) := of_decide_eq_true (by first | (with_reducible assumption) | assumption); have q458 : x9_1 < (l0.length : Int) := of_decide_eq_true (by first | (with_reducible assumption) | assumption); obtain ⟨ad458, A458_13, c458_13, e458, hx458_0, hx458_1, hx458_2, hx458_3, hx458_4, hx458_5, hx458_6, hx458_7, hx458_8, hx458_9, hx458_10, hx458_11, hx458_12, hx458_13, hl458_13, hi458_13⟩ := at_T46 HR0.out x9_1 p458 q458; obtain rfl : ad456 = ad458 := (by injection e458); replace hx458_0 := (HB.out.cell (World.block_lt_of_cell? w _ hx458_0)).trans hx458_0; replace hx458_1 := (HB.out.cell (World.block_lt_of_cell? w _ hx458_1)).trans hx458_1; replace hx458_2 := (HB.out.cell (World.block_lt_of_cell? w _ hx458_2)).trans hx458_2; replace hx458_3 := (HB.out.cell (World.block_lt_of_cell? w _ hx458_3)).trans hx458_3; replace hx458_4 := (HB.out.cell (World.block_lt_of_cell? w _ hx458_4)).trans hx458_4; replace hx458_5 := (HB.out.cell (World.block_lt_of_cell? w _ hx458_5)).trans hx458_5; replace hx458_6 := (HB.out.cell (World.block_lt_of_cell? w _ hx458_6)).trans hx458_6; replace hx458_7 := (HB.out.cell (World.block_lt_of_cell? w _ hx458_7)).trans hx458_7; replace hx458_8 := (HB.out.cell (World.block_lt_of_cell? w _ hx458_8)).trans hx458_8; replace hx458_9 := (HB.out.cell (World.block_lt_of_cell? w _ hx458_9)).trans hx458_9; replace hx458_10 := (HB.out.cell (World.block_lt_of_cell? w _ hx458_10)).trans hx458_10; replace hx458_11 := (HB.out.cell (World.block_lt_of_cell? w _ hx458_11)).trans hx458_11; replace hx458_12 := (HB.out.cell (World.block_lt_of_cell? w _ hx458_12)).trans hx458_12; replace hx458_13 := (HB.out.cell (World.block_lt_of_cell? w _ hx458_13)).trans hx458_13; have HR458_13 := Aside0.mk hi458_13; have HC458_13 := Aside0.mk hl458_13; clear hi458_13 hl458_13; replace p458 := eq_true p458; replace q458 := eq_true q458) | (go_at_call 27; (with_reducible refine (ihg_watersmeetref07_Is k1 (by have := HK1.out; omega) ((rd_T46 l0 x9_1).f0) ((rd_T46 l0 x9_1).f1) ((rd_T46 l0 x9_1).f2) ((rd_T46 l0 x9_1).f3.f0) ((rd_T46 l0 x9_1).f3.f1) ((rd_T46 l0 x9_1).f3.f2) ((rd_T46 l0 x9_1).f3.f3.f0) ((rd_T46 l0 x9_1).f3.f3.f1) ((rd_T46 l0 x9_1).f4.f0) ((rd_T46 l0 x9_1).f4.f1) ((rd_T46 l0 x9_1).f4.f2) ((rd_T46 l0 x9_1).f4.f3.f0) ((rd_T46 l0 x9_1).f4.f3.f1) _ _ ((rd_T46 l0 x9_1).f5) a1 a3 true _ ?side1 ?side2 A10.out).mono ?_); (case side1 => repeat (first | exact (Kd.C_below HR458_13.out HB.out) | (with_reducible refine Kd.C_alloc ?_ _) | (with_reducible refine Kd.C_drewN ?_ _) | (with_reducible refine Kd.C_drew ?_))); (case side2 => exact HC458_13.out); rintro e w13 ⟨rfl, hb⟩; have n0_ := Aside0.mk (below_step (by repeat (first | (with_reducible first | exact HB.out | apply below_alloc | apply pw_below_drewN | apply below_drew1) | exact HB.out)) hb); clear HB; have HB := n0_; clear n0_; (try clear hb); (try clear hb2); (try clear hk); (try clear hi)))
       go_roundg k1
       case measure => have := HK1.out; omega
       case rel => exact ⟨(wrap64 (x9_1 + 1)), (by first | rfl | (simp; done) | (simp [*]; done)), H', ⟨by have := HK1.out; omega⟩, ⟨by repeat (first | (with_reducible first | exact HB.out | apply below_alloc | apply pw_below_drewN | apply below_drew1) | exact HB.out)⟩⟩
      ·replace c11 := Bool.eq_false_iff.mpr c11
       subst c11
       have H1 : (some false) = some r := by rw [if_neg (show ¬ (false = true) by decide)] at H; exact H
       clear H
       have H := H1
       clear H1
       obtain rfl := Option.some.inj H
       have p456 : 0 ≤ (x9_1 : Int) := of_decide_eq_true (by first | (with_reducible assumption) | assumption)
       have q456 : x9_1 < (l0.length : Int) := of_decide_eq_true (by first | (with_reducible assumption) | assumption)
       obtain ⟨ad456, A456_13, c456_13, e456, hx456_0, hx456_1, hx456_2, hx456_3, hx456_4, hx456_5, hx456_6, hx456_7, hx456_8, hx456_9, hx456_10, hx456_11, hx456_12, hx456_13, hl456_13, hi456_13⟩ := at_T46 HR0.out x9_1 p456 q456
       cases e456
       replace hx456_0 := (HB.out.cell (World.block_lt_of_cell? w _ hx456_0)).trans hx456_0
       replace hx456_1 := (HB.out.cell (World.block_lt_of_cell? w _ hx456_1)).trans hx456_1
       replace hx456_2 := (HB.out.cell (World.block_lt_of_cell? w _ hx456_2)).trans hx456_2
       replace hx456_3 := (HB.out.cell (World.block_lt_of_cell? w _ hx456_3)).trans hx456_3
       replace hx456_4 := (HB.out.cell (World.block_lt_of_cell? w _ hx456_4)).trans hx456_4
       replace hx456_5 := (HB.out.cell (World.block_lt_of_cell? w _ hx456_5)).trans hx456_5
       replace hx456_6 := (HB.out.cell (World.block_lt_of_cell? w _ hx456_6)).trans hx456_6
       replace hx456_7 := (HB.out.cell (World.block_lt_of_cell? w _ hx456_7)).trans hx456_7
       replace hx456_8 := (HB.out.cell (World.block_lt_of_cell? w _ hx456_8)).trans hx456_8
       replace hx456_9 := (HB.out.cell (World.block_lt_of_cell? w _ hx456_9)).trans hx456_9
       replace hx456_10 := (HB.out.cell (World.block_lt_of_cell? w _ hx456_10)).trans hx456_10
       replace hx456_11 := (HB.out.cell (World.block_lt_of_cell? w _ hx456_11)).trans hx456_11
       replace hx456_12 := (HB.out.cell (World.block_lt_of_cell? w _ hx456_12)).trans hx456_12
       replace hx456_13 := (HB.out.cell (World.block_lt_of_cell? w _ hx456_13)).trans hx456_13
       have HR456_13 := Aside0.mk hi456_13
       have HC456_13 := Aside0.mk hl456_13
       clear hi456_13 hl456_13
       replace p456 := eq_true p456
       replace q456 := eq_true q456
       go_wp2_with (first | ((with_reducible refine gate_callee (f := 27) rfl ?_); refine goesL_ (some 22) rfl rfl Try.func27 (by kernel_rfl) rfl #[.agg #[.int .i64 ((rd_T46 l0 x9_1).f0), .int .i64 ((rd_T46 l0 x9_1).f1), .int .i64 ((rd_T46 l0 x9_1).f2), .int .i64 ((rd_T46 l0 x9_1).f3.f0), .int .i64 ((rd_T46 l0 x9_1).f3.f1), .int .i64 ((rd_T46 l0 x9_1).f3.f2), .bool ((rd_T46 l0 x9_1).f3.f3.f0), .int .i64 ((rd_T46 l0 x9_1).f3.f3.f1), .int .i64 ((rd_T46 l0 x9_1).f4.f0), .int .i64 ((rd_T46 l0 x9_1).f4.f1), .int .i64 ((rd_T46 l0 x9_1).f4.f2), .bool ((rd_T46 l0 x9_1).f4.f3.f0), .int .i64 ((rd_T46 l0 x9_1).f4.f3.f1), .slice A456_13 ((rd_T46 l0 x9_1).f5).length c456_13], .int .u64 a1, .int .i64 a2] rfl (by (try simp only [List.map_toArray, List.map_cons, List.map_nil]); first | done | rfl | (simp only [List.length_drop, List.length_take]; rfl)) ?_; (with_reducible refine (ihg_watersmeetref07_Is k1 (by have := HK1.out; omega) ((rd_T46 l0 x9_1).f0) ((rd_T46 l0 x9_1).f1) ((rd_T46 l0 x9_1).f2) ((rd_T46 l0 x9_1).f3.f0) ((rd_T46 l0 x9_1).f3.f1) ((rd_T46 l0 x9_1).f3.f2) ((rd_T46 l0 x9_1).f3.f3.f0) ((rd_T46 l0 x9_1).f3.f3.f1) ((rd_T46 l0 x9_1).f4.f0) ((rd_T46 l0 x9_1).f4.f1) ((rd_T46 l0 x9_1).f4.f2) ((rd_T46 l0 x9_1).f4.f3.f0) ((rd_T46 l0 x9_1).f4.f3.f1) _ _ ((rd_T46 l0 x9_1).f5) a1 a2 false _ ?side1 ?side2 A7.out).mono ?_); (case side1 => repeat (first | exact (Kd.C_below HR456_13.out HB.out) | (with_reducible refine Kd.C_alloc ?_ _) | (with_reducible refine Kd.C_drewN ?_ _) | (with_reducible refine Kd.C_drew ?_))); (case side2 => exact HC456_13.out); rintro e w14 ⟨rfl, hb⟩; refine ⟨_, rfl, ?_⟩; have n0_ := Aside0.mk (below_step (by repeat (first | (with_reducible first | exact HB.out | apply below_alloc | apply pw_below_drewN | apply below_drew1) | exact HB.out)) hb); clear HB; have HB := n0_; clear n0_; (try clear hb); (try clear hb2); (try clear hk); (try clear hi); have p458 : 0 ≤ (x9_1 : Int) := of_decide_eq_true (by first | (with_reducible assumption) | assumption); have q458 : x9_1 < (l0.length : Int) := of_decide_eq_true (by first | (with_reducible assumption) | assumption); obtain ⟨ad458, A458_13, c458_13, e458, hx458_0, hx458_1, hx458_2, hx458_3, hx458_4, hx458_5, hx458_6, hx458_7, hx458_8, hx458_9, hx458_10, hx458_11, hx458_12, hx458_13, hl458_13, hi458_13⟩ := at_T46 HR0.out x9_1 p458 q458; obtain rfl : ad456 = ad458 := (by injection e458); replace hx458_0 := (HB.out.cell (World.block_lt_of_cell? w _ hx458_0)).trans hx458_0; replace hx458_1 := (HB.out.cell (World.block_lt_of_cell? w _ hx458_1)).trans hx458_1; replace hx458_2 := (HB.out.cell (World.block_lt_of_cell? w _ hx458_2)).trans hx458_2; replace hx458_3 := (HB.out.cell (World.block_lt_of_cell? w _ hx458_3)).trans hx458_3; replace hx458_4 := (HB.out.cell (World.block_lt_of_cell? w _ hx458_4)).trans hx458_4; replace hx458_5 := (HB.out.cell (World.block_lt_of_cell? w _ hx458_5)).trans hx458_5; replace hx458_6 := (HB.out.cell (World.block_lt_of_cell? w _ hx458_6)).trans hx458_6; replace hx458_7 := (HB.out.cell (World.block_lt_of_cell? w _ hx458_7)).trans hx458_7; replace hx458_8 := (HB.out.cell (World.block_lt_of_cell? w _ hx458_8)).trans hx458_8; replace hx458_9 := (HB.out.cell (World.block_lt_of_cell? w _ hx458_9)).trans hx458_9; replace hx458_10 := (HB.out.cell (World.block_lt_of_cell? w _ hx458_10)).trans hx458_10; replace hx458_11 := (HB.out.cell (World.block_lt_of_cell? w _ hx458_11)).trans hx458_11; replace hx458_12 := (HB.out.cell (World.block_lt_of_cell? w _ hx458_12)).trans hx458_12; replace hx458_13 := (HB.out.cell (World.block_lt_of_cell? w _ hx458_13)).trans hx458_13; have HR458_13 := Aside0.mk hi458_13; have HC458_13 := Aside0.mk hl458_13; clear hi458_13 hl458_13; replace p458 := eq_true p458; replace q458 := eq_true q458) | (go_at_call 27; (with_reducible refine (ihg_watersmeetref07_Is k1 (by have := HK1.out; omega) ((rd_T46 l0 x9_1).f0) ((rd_T46 l0 x9_1).f1) ((rd_T46 l0 x9_1).f2) ((rd_T46 l0 x9_1).f3.f0) ((rd_T46 l0 x9_1).f3.f1) ((rd_T46 l0 x9_1).f3.f2) ((rd_T46 l0 x9_1).f3.f3.f0) ((rd_T46 l0 x9_1).f3.f3.f1) ((rd_T46 l0 x9_1).f4.f0) ((rd_T46 l0 x9_1).f4.f1) ((rd_T46 l0 x9_1).f4.f2) ((rd_T46 l0 x9_1).f4.f3.f0) ((rd_T46 l0 x9_1).f4.f3.f1) _ _ ((rd_T46 l0 x9_1).f5) a1 a3 false _ ?side1 ?side2 A10.out).mono ?_); (case side1 => repeat (first | exact (Kd.C_below HR458_13.out HB.out) | (with_reducible refine Kd.C_alloc ?_ _) | (with_reducible refine Kd.C_drewN ?_ _) | (with_reducible refine Kd.C_drew ?_))); (case side2 => exact HC458_13.out); rintro e w15 ⟨rfl, hb⟩; have n0_ := Aside0.mk (below_step (by repeat (first | (with_reducible first | exact HB.out | apply below_alloc | apply pw_below_drewN | apply below_drew1) | exact HB.out)) hb); clear HB; have HB := n0_; clear n0_; (try clear hb); (try clear hb2); (try clear hk); (try clear hi)))
       go_ret
       exact ⟨by first | rfl | (simp [errW_none, errW_some] <;> rfl) | (simp [*, errW_none, errW_some] <;> rfl), by repeat (first | (with_reducible first | exact HB.out | apply below_alloc | apply pw_below_drewN | apply below_drew1) | exact HB.out)⟩
    ·rw [if_neg c6] at H
     exact absurd H (by simp)
   ·rw [if_neg c5] at H
    have c5b0 : decide (x9_1 < (l0.length : Int)) = false := decide_eq_false c5
    clear c5
    obtain rfl := Option.some.inj H
    go_wp2
    go_ret
    exact ⟨by first | rfl | (simp [errW_none, errW_some] <;> rfl) | (simp [*, errW_none, errW_some] <;> rfl), by repeat (first | (with_reducible first | exact HB.out | apply below_alloc | apply pw_below_drewN | apply below_drew1) | exact HB.out)⟩
/-! ### watersmeetref07_some: function 95 -/
set_option maxHeartbeats 8000000 in
set_option maxRecDepth 100000 in
theorem watersmeetref07_some.calls_of (k : Nat) (ih : ∀ j_, j_ < k → watersmeetref07_some.Says j_) (ihg_watersmeetref07_all : ∀ j_, j_ < k → watersmeetref07_all.Says j_) (ihg_watersmeetref07_Is : ∀ j_, j_ < k → watersmeetref07_Is.Says j_) (ihg_watersmeetref07_many : ∀ j_, j_ < k → watersmeetref07_many.Says j_) (ihg_watersmeetref07_every : ∀ j_, j_ < k → watersmeetref07_every.Says j_) : watersmeetref07_some.Says k := by
 unfold watersmeetref07_some.Says
 intro A0 c0 l0 a1 a2 r w hr0 hc0 h
 cases k with
 | zero => exact absurd h (by simp [watersmeetref07_some.f])
 | succ k =>
 simp only [watersmeetref07_some.f] at h
 have hu46 := Try.underlying46
 have HR0 := Aside0.mk hr0
 have HC0 := Aside0.mk hc0
 clear hr0 hc0
 have HB := Aside0.mk (Below.refl w.heap.size w)
 have H : (watersmeetref07_some.l0 k l0 a1 a2 0) = some r := h
 clear h
 have H' := Aside0.mk H
 clear H
 go_enter Try.func95, Try.ntmps95
 go_wp2
 go_loopg [7] k (fun kq v7 w' => ∃ (x7_1 : Int), v7 = .int .i64 x7_1 ∧ Aside0 (watersmeetref07_some.l0 kq l0 a1 a2 x7_1 = some r) ∧ Aside0 (kq ≤ k) ∧ Aside0 (Below w.heap.size w w'))
 case atStart => exact ⟨(0), (by first | rfl | (simp; done) | (simp [*]; done)), H', ⟨Nat.le_refl _⟩, ⟨by repeat (first | (with_reducible first | exact HB.out | apply below_alloc | apply pw_below_drewN | apply below_drew1) | exact HB.out)⟩⟩
 case round =>
  clear H'
  try clear p2
  obtain ⟨x7_1, rfl, HA, HK1, HB⟩ := hrel
  cases gk with
  | zero => exact absurd HA.out (by simp [watersmeetref07_some.l0])
  | succ k1 =>
   have H := HA.out
   clear HA
   simp only [watersmeetref07_some.l0] at H
   by_cases c4 : x7_1 < (l0.length : Int)
   ·rw [if_pos c4] at H
    have c4b0 : decide (x7_1 < (l0.length : Int)) = true := decide_eq_true c4
    clear c4
    by_cases c5 : 0 ≤ x7_1
    ·rw [if_pos c5] at H
     have c5b0 : decide (0 ≤ x7_1) = true := decide_eq_true c5
     clear c5
     replace H := Option.bind_eq_some_iff.mp H
     obtain ⟨t461, A60, H⟩ := H
     replace H : (if t461 = true then (some true) else (watersmeetref07_some.l0 k1 l0 a1 a2 (wrap64 (x7_1 + 1)))) = some r := H
     have A6 := Aside0.mk A60
     clear A60
     by_cases c7 : t461 = true
     ·subst c7
      have H1 : (some true) = some r := by rw [if_pos rfl] at H; exact H
      clear H
      have H := H1
      clear H1
      obtain rfl := Option.some.inj H
      have p460 : 0 ≤ (x7_1 : Int) := of_decide_eq_true (by first | (with_reducible assumption) | assumption)
      have q460 : x7_1 < (l0.length : Int) := of_decide_eq_true (by first | (with_reducible assumption) | assumption)
      obtain ⟨ad460, A460_13, c460_13, e460, hx460_0, hx460_1, hx460_2, hx460_3, hx460_4, hx460_5, hx460_6, hx460_7, hx460_8, hx460_9, hx460_10, hx460_11, hx460_12, hx460_13, hl460_13, hi460_13⟩ := at_T46 HR0.out x7_1 p460 q460
      cases e460
      replace hx460_0 := (HB.out.cell (World.block_lt_of_cell? w _ hx460_0)).trans hx460_0
      replace hx460_1 := (HB.out.cell (World.block_lt_of_cell? w _ hx460_1)).trans hx460_1
      replace hx460_2 := (HB.out.cell (World.block_lt_of_cell? w _ hx460_2)).trans hx460_2
      replace hx460_3 := (HB.out.cell (World.block_lt_of_cell? w _ hx460_3)).trans hx460_3
      replace hx460_4 := (HB.out.cell (World.block_lt_of_cell? w _ hx460_4)).trans hx460_4
      replace hx460_5 := (HB.out.cell (World.block_lt_of_cell? w _ hx460_5)).trans hx460_5
      replace hx460_6 := (HB.out.cell (World.block_lt_of_cell? w _ hx460_6)).trans hx460_6
      replace hx460_7 := (HB.out.cell (World.block_lt_of_cell? w _ hx460_7)).trans hx460_7
      replace hx460_8 := (HB.out.cell (World.block_lt_of_cell? w _ hx460_8)).trans hx460_8
      replace hx460_9 := (HB.out.cell (World.block_lt_of_cell? w _ hx460_9)).trans hx460_9
      replace hx460_10 := (HB.out.cell (World.block_lt_of_cell? w _ hx460_10)).trans hx460_10
      replace hx460_11 := (HB.out.cell (World.block_lt_of_cell? w _ hx460_11)).trans hx460_11
      replace hx460_12 := (HB.out.cell (World.block_lt_of_cell? w _ hx460_12)).trans hx460_12
      replace hx460_13 := (HB.out.cell (World.block_lt_of_cell? w _ hx460_13)).trans hx460_13
      have HR460_13 := Aside0.mk hi460_13
      have HC460_13 := Aside0.mk hl460_13
      clear hi460_13 hl460_13
      replace p460 := eq_true p460
      replace q460 := eq_true q460
      go_wp2_with (first | ((with_reducible refine gate_callee (f := 27) rfl ?_); refine goesL_ (some 20) rfl rfl Try.func27 (by kernel_rfl) rfl #[.agg #[.int .i64 ((rd_T46 l0 x7_1).f0), .int .i64 ((rd_T46 l0 x7_1).f1), .int .i64 ((rd_T46 l0 x7_1).f2), .int .i64 ((rd_T46 l0 x7_1).f3.f0), .int .i64 ((rd_T46 l0 x7_1).f3.f1), .int .i64 ((rd_T46 l0 x7_1).f3.f2), .bool ((rd_T46 l0 x7_1).f3.f3.f0), .int .i64 ((rd_T46 l0 x7_1).f3.f3.f1), .int .i64 ((rd_T46 l0 x7_1).f4.f0), .int .i64 ((rd_T46 l0 x7_1).f4.f1), .int .i64 ((rd_T46 l0 x7_1).f4.f2), .bool ((rd_T46 l0 x7_1).f4.f3.f0), .int .i64 ((rd_T46 l0 x7_1).f4.f3.f1), .slice A460_13 ((rd_T46 l0 x7_1).f5).length c460_13], .int .u64 a1, .int .i64 a2] rfl (by (try simp only [List.map_toArray, List.map_cons, List.map_nil]); first | done | rfl | (simp only [List.length_drop, List.length_take]; rfl)) ?_; (with_reducible refine (ihg_watersmeetref07_Is k1 (by have := HK1.out; omega) ((rd_T46 l0 x7_1).f0) ((rd_T46 l0 x7_1).f1) ((rd_T46 l0 x7_1).f2) ((rd_T46 l0 x7_1).f3.f0) ((rd_T46 l0 x7_1).f3.f1) ((rd_T46 l0 x7_1).f3.f2) ((rd_T46 l0 x7_1).f3.f3.f0) ((rd_T46 l0 x7_1).f3.f3.f1) ((rd_T46 l0 x7_1).f4.f0) ((rd_T46 l0 x7_1).f4.f1) ((rd_T46 l0 x7_1).f4.f2) ((rd_T46 l0 x7_1).f4.f3.f0) ((rd_T46 l0 x7_1).f4.f3.f1) _ _ ((rd_T46 l0 x7_1).f5) a1 a2 true _ ?side1 ?side2 A6.out).mono ?_); (case side1 => repeat (first | exact (Kd.C_below HR460_13.out HB.out) | (with_reducible refine Kd.C_alloc ?_ _) | (with_reducible refine Kd.C_drewN ?_ _) | (with_reducible refine Kd.C_drew ?_))); (case side2 => exact HC460_13.out); rintro e w8 ⟨rfl, hb⟩; refine ⟨_, rfl, ?_⟩; have n0_ := Aside0.mk (below_step (by repeat (first | (with_reducible first | exact HB.out | apply below_alloc | apply pw_below_drewN | apply below_drew1) | exact HB.out)) hb); clear HB; have HB := n0_; clear n0_; (try clear hb); (try clear hb2); (try clear hk); (try clear hi)))
      go_ret
      exact ⟨by first | rfl | (simp [errW_none, errW_some] <;> rfl) | (simp [*, errW_none, errW_some] <;> rfl), by repeat (first | (with_reducible first | exact HB.out | apply below_alloc | apply pw_below_drewN | apply below_drew1) | exact HB.out)⟩
     ·replace c7 := Bool.eq_false_iff.mpr c7
      subst c7
      have H1 : (watersmeetref07_some.l0 k1 l0 a1 a2 (wrap64 (x7_1 + 1))) = some r := by rw [if_neg (show ¬ (false = true) by decide)] at H; exact H
      clear H
      have H := H1
      clear H1
      have H' := Aside0.mk H
      clear H
      have p460 : 0 ≤ (x7_1 : Int) := of_decide_eq_true (by first | (with_reducible assumption) | assumption)
      have q460 : x7_1 < (l0.length : Int) := of_decide_eq_true (by first | (with_reducible assumption) | assumption)
      obtain ⟨ad460, A460_13, c460_13, e460, hx460_0, hx460_1, hx460_2, hx460_3, hx460_4, hx460_5, hx460_6, hx460_7, hx460_8, hx460_9, hx460_10, hx460_11, hx460_12, hx460_13, hl460_13, hi460_13⟩ := at_T46 HR0.out x7_1 p460 q460
      cases e460
      replace hx460_0 := (HB.out.cell (World.block_lt_of_cell? w _ hx460_0)).trans hx460_0
      replace hx460_1 := (HB.out.cell (World.block_lt_of_cell? w _ hx460_1)).trans hx460_1
      replace hx460_2 := (HB.out.cell (World.block_lt_of_cell? w _ hx460_2)).trans hx460_2
      replace hx460_3 := (HB.out.cell (World.block_lt_of_cell? w _ hx460_3)).trans hx460_3
      replace hx460_4 := (HB.out.cell (World.block_lt_of_cell? w _ hx460_4)).trans hx460_4
      replace hx460_5 := (HB.out.cell (World.block_lt_of_cell? w _ hx460_5)).trans hx460_5
      replace hx460_6 := (HB.out.cell (World.block_lt_of_cell? w _ hx460_6)).trans hx460_6
      replace hx460_7 := (HB.out.cell (World.block_lt_of_cell? w _ hx460_7)).trans hx460_7
      replace hx460_8 := (HB.out.cell (World.block_lt_of_cell? w _ hx460_8)).trans hx460_8
      replace hx460_9 := (HB.out.cell (World.block_lt_of_cell? w _ hx460_9)).trans hx460_9
      replace hx460_10 := (HB.out.cell (World.block_lt_of_cell? w _ hx460_10)).trans hx460_10
      replace hx460_11 := (HB.out.cell (World.block_lt_of_cell? w _ hx460_11)).trans hx460_11
      replace hx460_12 := (HB.out.cell (World.block_lt_of_cell? w _ hx460_12)).trans hx460_12
      replace hx460_13 := (HB.out.cell (World.block_lt_of_cell? w _ hx460_13)).trans hx460_13
      have HR460_13 := Aside0.mk hi460_13
      have HC460_13 := Aside0.mk hl460_13
      clear hi460_13 hl460_13
      replace p460 := eq_true p460
      replace q460 := eq_true q460
      go_wp2_with (first | ((with_reducible refine gate_callee (f := 27) rfl ?_); refine goesL_ (some 20) rfl rfl Try.func27 (by kernel_rfl) rfl #[.agg #[.int .i64 ((rd_T46 l0 x7_1).f0), .int .i64 ((rd_T46 l0 x7_1).f1), .int .i64 ((rd_T46 l0 x7_1).f2), .int .i64 ((rd_T46 l0 x7_1).f3.f0), .int .i64 ((rd_T46 l0 x7_1).f3.f1), .int .i64 ((rd_T46 l0 x7_1).f3.f2), .bool ((rd_T46 l0 x7_1).f3.f3.f0), .int .i64 ((rd_T46 l0 x7_1).f3.f3.f1), .int .i64 ((rd_T46 l0 x7_1).f4.f0), .int .i64 ((rd_T46 l0 x7_1).f4.f1), .int .i64 ((rd_T46 l0 x7_1).f4.f2), .bool ((rd_T46 l0 x7_1).f4.f3.f0), .int .i64 ((rd_T46 l0 x7_1).f4.f3.f1), .slice A460_13 ((rd_T46 l0 x7_1).f5).length c460_13], .int .u64 a1, .int .i64 a2] rfl (by (try simp only [List.map_toArray, List.map_cons, List.map_nil]); first | done | rfl | (simp only [List.length_drop, List.length_take]; rfl)) ?_; (with_reducible refine (ihg_watersmeetref07_Is k1 (by have := HK1.out; omega) ((rd_T46 l0 x7_1).f0) ((rd_T46 l0 x7_1).f1) ((rd_T46 l0 x7_1).f2) ((rd_T46 l0 x7_1).f3.f0) ((rd_T46 l0 x7_1).f3.f1) ((rd_T46 l0 x7_1).f3.f2) ((rd_T46 l0 x7_1).f3.f3.f0) ((rd_T46 l0 x7_1).f3.f3.f1) ((rd_T46 l0 x7_1).f4.f0) ((rd_T46 l0 x7_1).f4.f1) ((rd_T46 l0 x7_1).f4.f2) ((rd_T46 l0 x7_1).f4.f3.f0) ((rd_T46 l0 x7_1).f4.f3.f1) _ _ ((rd_T46 l0 x7_1).f5) a1 a2 false _ ?side1 ?side2 A6.out).mono ?_); (case side1 => repeat (first | exact (Kd.C_below HR460_13.out HB.out) | (with_reducible refine Kd.C_alloc ?_ _) | (with_reducible refine Kd.C_drewN ?_ _) | (with_reducible refine Kd.C_drew ?_))); (case side2 => exact HC460_13.out); rintro e w9 ⟨rfl, hb⟩; refine ⟨_, rfl, ?_⟩; have n0_ := Aside0.mk (below_step (by repeat (first | (with_reducible first | exact HB.out | apply below_alloc | apply pw_below_drewN | apply below_drew1) | exact HB.out)) hb); clear HB; have HB := n0_; clear n0_; (try clear hb); (try clear hb2); (try clear hk); (try clear hi)))
      go_roundg k1
      case measure => have := HK1.out; omega
      case rel => exact ⟨(wrap64 (x7_1 + 1)), (by first | rfl | (simp; done) | (simp [*]; done)), H', ⟨by have := HK1.out; omega⟩, ⟨by repeat (first | (with_reducible first | exact HB.out | apply below_alloc | apply pw_below_drewN | apply below_drew1) | exact HB.out)⟩⟩
    ·rw [if_neg c5] at H
     exact absurd H (by simp)
   ·rw [if_neg c4] at H
    have c4b0 : decide (x7_1 < (l0.length : Int)) = false := decide_eq_false c4
    clear c4
    obtain rfl := Option.some.inj H
    go_wp2
    go_ret
    exact ⟨by first | rfl | (simp [errW_none, errW_some] <;> rfl) | (simp [*, errW_none, errW_some] <;> rfl), by repeat (first | (with_reducible first | exact HB.out | apply below_alloc | apply pw_below_drewN | apply below_drew1) | exact HB.out)⟩
theorem watersmeetref07_all.calls_g : ∀ k, watersmeetref07_all.Says k ∧ watersmeetref07_Is.Says k ∧ watersmeetref07_many.Says k ∧ watersmeetref07_every.Says k ∧ watersmeetref07_some.Says k := by
 intro k
 induction k using Nat.strongRecOn with
 | _ k ih =>
 exact ⟨watersmeetref07_all.calls_of k (fun j_ hj_ => (ih j_ hj_).1) (fun j_ hj_ => (ih j_ hj_).2.1) (fun j_ hj_ => (ih j_ hj_).2.2.1) (fun j_ hj_ => (ih j_ hj_).2.2.2.1) (fun j_ hj_ => (ih j_ hj_).2.2.2.2), watersmeetref07_Is.calls_of k (fun j_ hj_ => (ih j_ hj_).2.1) (fun j_ hj_ => (ih j_ hj_).1) (fun j_ hj_ => (ih j_ hj_).2.2.1) (fun j_ hj_ => (ih j_ hj_).2.2.2.1) (fun j_ hj_ => (ih j_ hj_).2.2.2.2), watersmeetref07_many.calls_of k (fun j_ hj_ => (ih j_ hj_).2.2.1) (fun j_ hj_ => (ih j_ hj_).1) (fun j_ hj_ => (ih j_ hj_).2.1) (fun j_ hj_ => (ih j_ hj_).2.2.2.1) (fun j_ hj_ => (ih j_ hj_).2.2.2.2), watersmeetref07_every.calls_of k (fun j_ hj_ => (ih j_ hj_).2.2.2.1) (fun j_ hj_ => (ih j_ hj_).1) (fun j_ hj_ => (ih j_ hj_).2.1) (fun j_ hj_ => (ih j_ hj_).2.2.1) (fun j_ hj_ => (ih j_ hj_).2.2.2.2), watersmeetref07_some.calls_of k (fun j_ hj_ => (ih j_ hj_).2.2.2.2) (fun j_ hj_ => (ih j_ hj_).1) (fun j_ hj_ => (ih j_ hj_).2.1) (fun j_ hj_ => (ih j_ hj_).2.2.1) (fun j_ hj_ => (ih j_ hj_).2.2.2.1)⟩
theorem watersmeetref07_all.calls (k : Nat) : ∀ (A0 : Option Addr) (c0 : Nat) (l0 : List (S46)) (a1 : Int) (r : Bool) (w : World) (hr0 : Kd.C k46 w A0 l0.length l0) (hc0 : l0.length ≤ c0) (h : watersmeetref07_all.f k l0 a1 = some r),
  Calls Try.prog 93 #[.slice A0 l0.length c0, .int .u64 a1] w fun e w' => e = .returned (.bool r) ∧ Below w.heap.size w w' := (watersmeetref07_all.calls_g k).1
theorem watersmeetref07_Is.calls (k : Nat) : ∀ (a0_0 : Int) (a0_1 : Int) (a0_2 : Int) (a0_3 : Int) (a0_4 : Int) (a0_5 : Int) (a0_6 : Bool) (a0_7 : Int) (a0_8 : Int) (a0_9 : Int) (a0_10 : Int) (a0_11 : Bool) (a0_12 : Int) (A0_13 : Option Addr) (c0_13 : Nat) (l0_13 : List (S46)) (a1 : Int) (a2 : Int) (r : Bool) (w : World) (hr0_13 : Kd.C k46 w A0_13 l0_13.length l0_13) (hc0_13 : l0_13.length ≤ c0_13) (h : watersmeetref07_Is.f k a0_0 a0_1 a0_2 a0_3 a0_4 a0_5 a0_6 a0_7 a0_8 a0_9 a0_10 a0_11 a0_12 l0_13 a1 a2 = some r),
  Calls Try.prog 27 #[.agg #[.int .i64 a0_0, .int .i64 a0_1, .int .i64 a0_2, .int .i64 a0_3, .int .i64 a0_4, .int .i64 a0_5, .bool a0_6, .int .i64 a0_7, .int .i64 a0_8, .int .i64 a0_9, .int .i64 a0_10, .bool a0_11, .int .i64 a0_12, .slice A0_13 l0_13.length c0_13], .int .u64 a1, .int .i64 a2] w fun e w' => e = .returned (.bool r) ∧ Below w.heap.size w w' := (watersmeetref07_all.calls_g k).2.1
theorem watersmeetref07_many.calls (k : Nat) : ∀ (A0 : Option Addr) (c0 : Nat) (l0 : List (S46)) (a1 : Int) (a2 : Int) (a3 : Int) (r : Bool) (w : World) (hr0 : Kd.C k46 w A0 l0.length l0) (hc0 : l0.length ≤ c0) (h : watersmeetref07_many.f k l0 a1 a2 a3 = some r),
  Calls Try.prog 65 #[.slice A0 l0.length c0, .int .u64 a1, .int .i64 a2, .int .i64 a3] w fun e w' => e = .returned (.bool r) ∧ Below w.heap.size w w' := (watersmeetref07_all.calls_g k).2.2.1
theorem watersmeetref07_every.calls (k : Nat) : ∀ (A0 : Option Addr) (c0 : Nat) (l0 : List (S46)) (a1 : Int) (a2 : Int) (a3 : Int) (r : Bool) (w : World) (hr0 : Kd.C k46 w A0 l0.length l0) (hc0 : l0.length ≤ c0) (h : watersmeetref07_every.f k l0 a1 a2 a3 = some r),
  Calls Try.prog 94 #[.slice A0 l0.length c0, .int .u64 a1, .int .i64 a2, .int .i64 a3] w fun e w' => e = .returned (.bool r) ∧ Below w.heap.size w w' := (watersmeetref07_all.calls_g k).2.2.2.1
theorem watersmeetref07_some.calls (k : Nat) : ∀ (A0 : Option Addr) (c0 : Nat) (l0 : List (S46)) (a1 : Int) (a2 : Int) (r : Bool) (w : World) (hr0 : Kd.C k46 w A0 l0.length l0) (hc0 : l0.length ≤ c0) (h : watersmeetref07_some.f k l0 a1 a2 = some r),
  Calls Try.prog 95 #[.slice A0 l0.length c0, .int .u64 a1, .int .i64 a2] w fun e w' => e = .returned (.bool r) ∧ Below w.heap.size w w' := (watersmeetref07_all.calls_g k).2.2.2.2

end Go.Proofs.Ytigkkfhpnfjmhaa.PRejT
