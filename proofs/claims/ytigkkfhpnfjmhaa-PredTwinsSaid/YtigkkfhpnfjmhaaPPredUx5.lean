/- Laid by a program of this session over the printer of the kit: contracts of functions of the given program, and rows of laws. Lean checks it. -/
import Derived.Test.YtigkkfhpnfjmhaaPPredUx0
import Derived.Test.YtigkkfhpnfjmhaaPPredUx2
import Derived.Test.YtigkkfhpnfjmhaaPPredUx4
namespace Go.Proofs.Ytigkkfhpnfjmhaa.PPredU
open Go.RowKit Go.Proofs.YtigkkfhpnfjmhaaW.PrintWords Go.Proofs.YtigkkfhpnfjmhaaW.PrintLast Go.Proofs.YtigkkfhpnfjmhaaW.PrintMore
attribute [local go_sem] max2_int min2_int max_two min_two max_three min_three max_four min_four   -- for this text's walks alone
set_option linter.unusedVariables false
set_option linter.unusedSimpArgs false

/-! ### pred_rightAt_1: function 103 -/
mutual
def pred_rightAt_1.f : Nat → Int → Int → Int → Int → Int → Int → Bool → Int → Int → Int → Int → Bool → Int → List (S46) → Int → Option (Bool)
 | 0, _, _, _, _, _, _, _, _, _, _, _, _, _, _, _ => none
 | k + 1, a0_0, a0_1, a0_2, a0_3, a0_4, a0_5, a0_6, a0_7, a0_8, a0_9, a0_10, a0_11, a0_12, l0_13, a1_0 => (pred_rightAt.f k a0_0 a0_1 a0_2 a0_3 a0_4 a0_5 a0_6 a0_7 a0_8 a0_9 a0_10 a0_11 a0_12 l0_13 (wrap64 (a1_0 + 1))).bind fun t270 => (some (!t270))
def pred_rightAt.j0 : Nat → Bool → Int → Int → Int → Int → Int → Int → Bool → Int → Int → Int → Int → Bool → Int → List (S46) → Int → Option (Bool)
 | 0, _, _, _, _, _, _, _, _, _, _, _, _, _, _, _, _ => none
 | k + 1, x13, x272000, x272001, x272002, x272003, x272004, x272005, x272006, x272007, x272008, x272009, x272010, x272011, x272012, x272013, x273000 => if x13 = true then (some false) else (if x272000 = 1 then ((logic_Right.f x272001).bind fun t274 => (if t274 = true then (if (x272013.length : Int) < 0 then (some false) else (if (x272013.length : Int) > 0 then (some false) else ((api_Pred_at_pred_rightAt_1.f k x272013 x273000).bind fun t275 => (some (!t275))))) else (some false))) else (if x272000 = 2 then (if x272002 < 1 then (pred_rightAt.j1 k 0 0 true x272000 x272001 x272002 x272003 x272004 x272005 x272006 x272007 x272008 x272009 x272010 x272011 x272012 x272013 x273000) else (if x272002 > 6 then (pred_rightAt.j1 k 0 0 true x272000 x272001 x272002 x272003 x272004 x272005 x272006 x272007 x272008 x272009 x272010 x272011 x272012 x272013 x273000) else ((term_Right.f x272003 x272004 x272005 x272006 x272007).bind fun t276 => (if t276 = true then ((term_Right.f x272008 x272009 x272010 x272011 x272012).bind fun t277 => (pred_rightAt.j1 k 0 0 (!t277) x272000 x272001 x272002 x272003 x272004 x272005 x272006 x272007 x272008 x272009 x272010 x272011 x272012 x272013 x273000)) else (pred_rightAt.j1 k 0 0 true x272000 x272001 x272002 x272003 x272004 x272005 x272006 x272007 x272008 x272009 x272010 x272011 x272012 x272013 x273000))))) else (if x272000 = 3 then ((term_Right.f x272003 x272004 x272005 x272006 x272007).bind fun t279 => (if t279 = true then (if (x272013.length : Int) < 0 then (some false) else (if (x272013.length : Int) > 0 then (some false) else ((api_Pred_at_pred_rightAt_1.f k x272013 x273000).bind fun t280 => (some (!t280))))) else (some false))) else (if x272000 = 4 then (pred_rightAt.j2 k 0 x272000 (x272000 == 4) x272000 x272001 x272002 x272003 x272004 x272005 x272006 x272007 x272008 x272009 x272010 x272011 x272012 x272013 x273000) else (pred_rightAt.j2 k 0 x272000 (x272000 == 5) x272000 x272001 x272002 x272003 x272004 x272005 x272006 x272007 x272008 x272009 x272010 x272011 x272012 x272013 x273000)))))
def pred_rightAt.j1 : Nat → Int → Int → Bool → Int → Int → Int → Int → Int → Int → Bool → Int → Int → Int → Int → Bool → Int → List (S46) → Int → Option (Bool)
 | 0, _, _, _, _, _, _, _, _, _, _, _, _, _, _, _, _, _, _ => none
 | k + 1, x5, x6, x43, x272000, x272001, x272002, x272003, x272004, x272005, x272006, x272007, x272008, x272009, x272010, x272011, x272012, x272013, x273000 => if x43 = true then (some false) else (if (x272013.length : Int) < x5 then (some false) else (if (x272013.length : Int) > x6 then (some false) else ((api_Pred_at_pred_rightAt_1.f k x272013 x273000).bind fun t278 => (some (!t278)))))
def pred_rightAt.j2 : Nat → Int → Int → Bool → Int → Int → Int → Int → Int → Int → Bool → Int → Int → Int → Int → Bool → Int → List (S46) → Int → Option (Bool)
 | 0, _, _, _, _, _, _, _, _, _, _, _, _, _, _, _, _, _, _ => none
 | k + 1, x5, x15, x50, x272000, x272001, x272002, x272003, x272004, x272005, x272006, x272007, x272008, x272009, x272010, x272011, x272012, x272013, x273000 => if x50 = true then (if (x272013.length : Int) < x5 then (some false) else (if (x272013.length : Int) > 4 then (some false) else ((api_Pred_at_pred_rightAt_1.f k x272013 x273000).bind fun t281 => (some (!t281))))) else (if x15 = 6 then (if (x272013.length : Int) < 1 then (some false) else (if (x272013.length : Int) > 1 then (some false) else ((api_Pred_at_pred_rightAt_1.f k x272013 x273000).bind fun t282 => (some (!t282))))) else (some false))
def pred_rightAt.f : Nat → Int → Int → Int → Int → Int → Int → Bool → Int → Int → Int → Int → Bool → Int → List (S46) → Int → Option (Bool)
 | 0, _, _, _, _, _, _, _, _, _, _, _, _, _, _, _ => none
 | k + 1, a0_0, a0_1, a0_2, a0_3, a0_4, a0_5, a0_6, a0_7, a0_8, a0_9, a0_10, a0_11, a0_12, l0_13, a1 => if a1 > 4 then (pred_rightAt.j0 k true a0_0 a0_1 a0_2 a0_3 a0_4 a0_5 a0_6 a0_7 a0_8 a0_9 a0_10 a0_11 a0_12 l0_13 a1) else ((pred_bare.f a0_0 a0_1 a0_2 a0_3 a0_4 a0_5 a0_6 a0_7 a0_8 a0_9 a0_10 a0_11 a0_12 l0_13).bind fun t273 => (pred_rightAt.j0 k (!t273) a0_0 a0_1 a0_2 a0_3 a0_4 a0_5 a0_6 a0_7 a0_8 a0_9 a0_10 a0_11 a0_12 l0_13 a1))
def api_Pred_at_pred_rightAt_1.f : Nat → List (S46) → Int → Option (Bool)
 | 0, _, _ => none
 | k + 1, l0, a2_0 => (api_Pred_at_pred_rightAt_1_2.f k l0 a2_0).bind fun t283 => (some (decide (t283 ≥ 0)))
def api_Pred_at_pred_rightAt_1_2.l0 : Nat → List (S46) → Int → Int → Int → Option (Int)
 | 0, _, _, _, _ => none
 | k + 1, x0, x7, x8, x3000 => if x8 < x7 then (if 0 ≤ x8 then (if x8 < (x0.length : Int) then ((pred_rightAt_1.f k ((rd_T46 x0 x8).f0) ((rd_T46 x0 x8).f1) ((rd_T46 x0 x8).f2) ((rd_T46 x0 x8).f3.f0) ((rd_T46 x0 x8).f3.f1) ((rd_T46 x0 x8).f3.f2) ((rd_T46 x0 x8).f3.f3.f0) ((rd_T46 x0 x8).f3.f3.f1) ((rd_T46 x0 x8).f4.f0) ((rd_T46 x0 x8).f4.f1) ((rd_T46 x0 x8).f4.f2) ((rd_T46 x0 x8).f4.f3.f0) ((rd_T46 x0 x8).f4.f3.f1) ((rd_T46 x0 x8).f5) x3000).bind fun t285 => (if t285 = true then (some x8) else (api_Pred_at_pred_rightAt_1_2.l0 k x0 x7 (wrap64 (x8 + 1)) x3000))) else (none)) else (none)) else (some (-1))
def api_Pred_at_pred_rightAt_1_2.f : Nat → List (S46) → Int → Option (Int)
 | 0, _, _ => none
 | k + 1, l0, a2_0 => api_Pred_at_pred_rightAt_1_2.l0 k l0 (l0.length : Int) 0 a2_0
end
theorem pred_rightAt_1.mono_g : ∀ k, (∀ y0 y1 y2 y3 y4 y5 y6 y7 y8 y9 y10 y11 y12 y13 y14, LeO (pred_rightAt_1.f k y0 y1 y2 y3 y4 y5 y6 y7 y8 y9 y10 y11 y12 y13 y14) (pred_rightAt_1.f (k + 1) y0 y1 y2 y3 y4 y5 y6 y7 y8 y9 y10 y11 y12 y13 y14)) ∧ (∀ y0 y1 y2 y3 y4 y5 y6 y7 y8 y9 y10 y11 y12 y13 y14, LeO (pred_rightAt.f k y0 y1 y2 y3 y4 y5 y6 y7 y8 y9 y10 y11 y12 y13 y14) (pred_rightAt.f (k + 1) y0 y1 y2 y3 y4 y5 y6 y7 y8 y9 y10 y11 y12 y13 y14)) ∧ (∀ y0 y1 y2 y3 y4 y5 y6 y7 y8 y9 y10 y11 y12 y13 y14 y15, LeO (pred_rightAt.j0 k y0 y1 y2 y3 y4 y5 y6 y7 y8 y9 y10 y11 y12 y13 y14 y15) (pred_rightAt.j0 (k + 1) y0 y1 y2 y3 y4 y5 y6 y7 y8 y9 y10 y11 y12 y13 y14 y15)) ∧ (∀ y0 y1 y2 y3 y4 y5 y6 y7 y8 y9 y10 y11 y12 y13 y14 y15 y16 y17, LeO (pred_rightAt.j1 k y0 y1 y2 y3 y4 y5 y6 y7 y8 y9 y10 y11 y12 y13 y14 y15 y16 y17) (pred_rightAt.j1 (k + 1) y0 y1 y2 y3 y4 y5 y6 y7 y8 y9 y10 y11 y12 y13 y14 y15 y16 y17)) ∧ (∀ y0 y1 y2 y3 y4 y5 y6 y7 y8 y9 y10 y11 y12 y13 y14 y15 y16 y17, LeO (pred_rightAt.j2 k y0 y1 y2 y3 y4 y5 y6 y7 y8 y9 y10 y11 y12 y13 y14 y15 y16 y17) (pred_rightAt.j2 (k + 1) y0 y1 y2 y3 y4 y5 y6 y7 y8 y9 y10 y11 y12 y13 y14 y15 y16 y17)) ∧ (∀ y0 y1, LeO (api_Pred_at_pred_rightAt_1.f k y0 y1) (api_Pred_at_pred_rightAt_1.f (k + 1) y0 y1)) ∧ (∀ y0 y1, LeO (api_Pred_at_pred_rightAt_1_2.f k y0 y1) (api_Pred_at_pred_rightAt_1_2.f (k + 1) y0 y1)) ∧ (∀ y0 y1 y2 y3, LeO (api_Pred_at_pred_rightAt_1_2.l0 k y0 y1 y2 y3) (api_Pred_at_pred_rightAt_1_2.l0 (k + 1) y0 y1 y2 y3))
 | 0 => ⟨fun _ _ _ _ _ _ _ _ _ _ _ _ _ _ _ r h => by simp [pred_rightAt_1.f] at h, fun _ _ _ _ _ _ _ _ _ _ _ _ _ _ _ r h => by simp [pred_rightAt.f] at h, fun _ _ _ _ _ _ _ _ _ _ _ _ _ _ _ _ r h => by simp [pred_rightAt.j0] at h, fun _ _ _ _ _ _ _ _ _ _ _ _ _ _ _ _ _ _ r h => by simp [pred_rightAt.j1] at h, fun _ _ _ _ _ _ _ _ _ _ _ _ _ _ _ _ _ _ r h => by simp [pred_rightAt.j2] at h, fun _ _ r h => by simp [api_Pred_at_pred_rightAt_1.f] at h, fun _ _ r h => by simp [api_Pred_at_pred_rightAt_1_2.f] at h, fun _ _ _ _ r h => by simp [api_Pred_at_pred_rightAt_1_2.l0] at h⟩
 | k + 1 => by
  obtain ⟨ih0, ih1, ih2, ih3, ih4, ih5, ih6, ih7⟩ := pred_rightAt_1.mono_g k
  refine ⟨?_, ?_, ?_, ?_, ?_, ?_, ?_, ?_⟩
  ·intro y0 y1 y2 y3 y4 y5 y6 y7 y8 y9 y10 y11 y12 y13 y14
   unfold pred_rightAt_1.f
   repeat' first
   | (with_reducible exact ih0 _ _ _ _ _ _ _ _ _ _ _ _ _ _ _)
   | (with_reducible exact ih1 _ _ _ _ _ _ _ _ _ _ _ _ _ _ _)
   | (with_reducible exact ih2 _ _ _ _ _ _ _ _ _ _ _ _ _ _ _ _)
   | (with_reducible exact ih3 _ _ _ _ _ _ _ _ _ _ _ _ _ _ _ _ _ _)
   | (with_reducible exact ih4 _ _ _ _ _ _ _ _ _ _ _ _ _ _ _ _ _ _)
   | (with_reducible exact ih5 _ _)
   | (with_reducible exact ih6 _ _)
   | (with_reducible exact ih7 _ _ _ _)
   | (with_reducible exact LeO.refl _)
   | (with_reducible exact LeO.none _)
   | (with_reducible refine LeO.ite ?_ ?_)
   | (with_reducible refine LeO.bind ?_ (fun _ => ?_))
   | exact ih0 _ _ _ _ _ _ _ _ _ _ _ _ _ _ _
   | exact ih1 _ _ _ _ _ _ _ _ _ _ _ _ _ _ _
   | exact ih2 _ _ _ _ _ _ _ _ _ _ _ _ _ _ _ _
   | exact ih3 _ _ _ _ _ _ _ _ _ _ _ _ _ _ _ _ _ _
   | exact ih4 _ _ _ _ _ _ _ _ _ _ _ _ _ _ _ _ _ _
   | exact ih5 _ _
   | exact ih6 _ _
   | exact ih7 _ _ _ _
   | exact LeO.none _
   | refine LeO.ite ?_ ?_
   | refine LeO.bind ?_ (fun _ => ?_)
  ·intro y0 y1 y2 y3 y4 y5 y6 y7 y8 y9 y10 y11 y12 y13 y14
   unfold pred_rightAt.f
   repeat' first
   | (with_reducible exact ih0 _ _ _ _ _ _ _ _ _ _ _ _ _ _ _)
   | (with_reducible exact ih1 _ _ _ _ _ _ _ _ _ _ _ _ _ _ _)
   | (with_reducible exact ih2 _ _ _ _ _ _ _ _ _ _ _ _ _ _ _ _)
   | (with_reducible exact ih3 _ _ _ _ _ _ _ _ _ _ _ _ _ _ _ _ _ _)
   | (with_reducible exact ih4 _ _ _ _ _ _ _ _ _ _ _ _ _ _ _ _ _ _)
   | (with_reducible exact ih5 _ _)
   | (with_reducible exact ih6 _ _)
   | (with_reducible exact ih7 _ _ _ _)
   | (with_reducible exact LeO.refl _)
   | (with_reducible exact LeO.none _)
   | (with_reducible refine LeO.ite ?_ ?_)
   | (with_reducible refine LeO.bind ?_ (fun _ => ?_))
   | exact ih0 _ _ _ _ _ _ _ _ _ _ _ _ _ _ _
   | exact ih1 _ _ _ _ _ _ _ _ _ _ _ _ _ _ _
   | exact ih2 _ _ _ _ _ _ _ _ _ _ _ _ _ _ _ _
   | exact ih3 _ _ _ _ _ _ _ _ _ _ _ _ _ _ _ _ _ _
   | exact ih4 _ _ _ _ _ _ _ _ _ _ _ _ _ _ _ _ _ _
   | exact ih5 _ _
   | exact ih6 _ _
   | exact ih7 _ _ _ _
   | exact LeO.none _
   | refine LeO.ite ?_ ?_
   | refine LeO.bind ?_ (fun _ => ?_)
  ·intro y0 y1 y2 y3 y4 y5 y6 y7 y8 y9 y10 y11 y12 y13 y14 y15
   unfold pred_rightAt.j0
   repeat' first
   | (with_reducible exact ih0 _ _ _ _ _ _ _ _ _ _ _ _ _ _ _)
   | (with_reducible exact ih1 _ _ _ _ _ _ _ _ _ _ _ _ _ _ _)
   | (with_reducible exact ih2 _ _ _ _ _ _ _ _ _ _ _ _ _ _ _ _)
   | (with_reducible exact ih3 _ _ _ _ _ _ _ _ _ _ _ _ _ _ _ _ _ _)
   | (with_reducible exact ih4 _ _ _ _ _ _ _ _ _ _ _ _ _ _ _ _ _ _)
   | (with_reducible exact ih5 _ _)
   | (with_reducible exact ih6 _ _)
   | (with_reducible exact ih7 _ _ _ _)
   | (with_reducible exact LeO.refl _)
   | (with_reducible exact LeO.none _)
   | (with_reducible refine LeO.ite ?_ ?_)
   | (with_reducible refine LeO.bind ?_ (fun _ => ?_))
   | exact ih0 _ _ _ _ _ _ _ _ _ _ _ _ _ _ _
   | exact ih1 _ _ _ _ _ _ _ _ _ _ _ _ _ _ _
   | exact ih2 _ _ _ _ _ _ _ _ _ _ _ _ _ _ _ _
   | exact ih3 _ _ _ _ _ _ _ _ _ _ _ _ _ _ _ _ _ _
   | exact ih4 _ _ _ _ _ _ _ _ _ _ _ _ _ _ _ _ _ _
   | exact ih5 _ _
   | exact ih6 _ _
   | exact ih7 _ _ _ _
   | exact LeO.none _
   | refine LeO.ite ?_ ?_
   | refine LeO.bind ?_ (fun _ => ?_)
  ·intro y0 y1 y2 y3 y4 y5 y6 y7 y8 y9 y10 y11 y12 y13 y14 y15 y16 y17
   unfold pred_rightAt.j1
   repeat' first
   | (with_reducible exact ih0 _ _ _ _ _ _ _ _ _ _ _ _ _ _ _)
   | (with_reducible exact ih1 _ _ _ _ _ _ _ _ _ _ _ _ _ _ _)
   | (with_reducible exact ih2 _ _ _ _ _ _ _ _ _ _ _ _ _ _ _ _)
   | (with_reducible exact ih3 _ _ _ _ _ _ _ _ _ _ _ _ _ _ _ _ _ _)
   | (with_reducible exact ih4 _ _ _ _ _ _ _ _ _ _ _ _ _ _ _ _ _ _)
   | (with_reducible exact ih5 _ _)
   | (with_reducible exact ih6 _ _)
   | (with_reducible exact ih7 _ _ _ _)
   | (with_reducible exact LeO.refl _)
   | (with_reducible exact LeO.none _)
   | (with_reducible refine LeO.ite ?_ ?_)
   | (with_reducible refine LeO.bind ?_ (fun _ => ?_))
   | exact ih0 _ _ _ _ _ _ _ _ _ _ _ _ _ _ _
   | exact ih1 _ _ _ _ _ _ _ _ _ _ _ _ _ _ _
   | exact ih2 _ _ _ _ _ _ _ _ _ _ _ _ _ _ _ _
   | exact ih3 _ _ _ _ _ _ _ _ _ _ _ _ _ _ _ _ _ _
   | exact ih4 _ _ _ _ _ _ _ _ _ _ _ _ _ _ _ _ _ _
   | exact ih5 _ _
   | exact ih6 _ _
   | exact ih7 _ _ _ _
   | exact LeO.none _
   | refine LeO.ite ?_ ?_
   | refine LeO.bind ?_ (fun _ => ?_)
  ·intro y0 y1 y2 y3 y4 y5 y6 y7 y8 y9 y10 y11 y12 y13 y14 y15 y16 y17
   unfold pred_rightAt.j2
   repeat' first
   | (with_reducible exact ih0 _ _ _ _ _ _ _ _ _ _ _ _ _ _ _)
   | (with_reducible exact ih1 _ _ _ _ _ _ _ _ _ _ _ _ _ _ _)
   | (with_reducible exact ih2 _ _ _ _ _ _ _ _ _ _ _ _ _ _ _ _)
   | (with_reducible exact ih3 _ _ _ _ _ _ _ _ _ _ _ _ _ _ _ _ _ _)
   | (with_reducible exact ih4 _ _ _ _ _ _ _ _ _ _ _ _ _ _ _ _ _ _)
   | (with_reducible exact ih5 _ _)
   | (with_reducible exact ih6 _ _)
   | (with_reducible exact ih7 _ _ _ _)
   | (with_reducible exact LeO.refl _)
   | (with_reducible exact LeO.none _)
   | (with_reducible refine LeO.ite ?_ ?_)
   | (with_reducible refine LeO.bind ?_ (fun _ => ?_))
   | exact ih0 _ _ _ _ _ _ _ _ _ _ _ _ _ _ _
   | exact ih1 _ _ _ _ _ _ _ _ _ _ _ _ _ _ _
   | exact ih2 _ _ _ _ _ _ _ _ _ _ _ _ _ _ _ _
   | exact ih3 _ _ _ _ _ _ _ _ _ _ _ _ _ _ _ _ _ _
   | exact ih4 _ _ _ _ _ _ _ _ _ _ _ _ _ _ _ _ _ _
   | exact ih5 _ _
   | exact ih6 _ _
   | exact ih7 _ _ _ _
   | exact LeO.none _
   | refine LeO.ite ?_ ?_
   | refine LeO.bind ?_ (fun _ => ?_)
  ·intro y0 y1
   unfold api_Pred_at_pred_rightAt_1.f
   repeat' first
   | (with_reducible exact ih0 _ _ _ _ _ _ _ _ _ _ _ _ _ _ _)
   | (with_reducible exact ih1 _ _ _ _ _ _ _ _ _ _ _ _ _ _ _)
   | (with_reducible exact ih2 _ _ _ _ _ _ _ _ _ _ _ _ _ _ _ _)
   | (with_reducible exact ih3 _ _ _ _ _ _ _ _ _ _ _ _ _ _ _ _ _ _)
   | (with_reducible exact ih4 _ _ _ _ _ _ _ _ _ _ _ _ _ _ _ _ _ _)
   | (with_reducible exact ih5 _ _)
   | (with_reducible exact ih6 _ _)
   | (with_reducible exact ih7 _ _ _ _)
   | (with_reducible exact LeO.refl _)
   | (with_reducible exact LeO.none _)
   | (with_reducible refine LeO.ite ?_ ?_)
   | (with_reducible refine LeO.bind ?_ (fun _ => ?_))
   | exact ih0 _ _ _ _ _ _ _ _ _ _ _ _ _ _ _
   | exact ih1 _ _ _ _ _ _ _ _ _ _ _ _ _ _ _
   | exact ih2 _ _ _ _ _ _ _ _ _ _ _ _ _ _ _ _
   | exact ih3 _ _ _ _ _ _ _ _ _ _ _ _ _ _ _ _ _ _
   | exact ih4 _ _ _ _ _ _ _ _ _ _ _ _ _ _ _ _ _ _
   | exact ih5 _ _
   | exact ih6 _ _
   | exact ih7 _ _ _ _
   | exact LeO.none _
   | refine LeO.ite ?_ ?_
   | refine LeO.bind ?_ (fun _ => ?_)
  ·intro y0 y1
   unfold api_Pred_at_pred_rightAt_1_2.f
   repeat' first
   | (with_reducible exact ih0 _ _ _ _ _ _ _ _ _ _ _ _ _ _ _)
   | (with_reducible exact ih1 _ _ _ _ _ _ _ _ _ _ _ _ _ _ _)
   | (with_reducible exact ih2 _ _ _ _ _ _ _ _ _ _ _ _ _ _ _ _)
   | (with_reducible exact ih3 _ _ _ _ _ _ _ _ _ _ _ _ _ _ _ _ _ _)
   | (with_reducible exact ih4 _ _ _ _ _ _ _ _ _ _ _ _ _ _ _ _ _ _)
   | (with_reducible exact ih5 _ _)
   | (with_reducible exact ih6 _ _)
   | (with_reducible exact ih7 _ _ _ _)
   | (with_reducible exact LeO.refl _)
   | (with_reducible exact LeO.none _)
   | (with_reducible refine LeO.ite ?_ ?_)
   | (with_reducible refine LeO.bind ?_ (fun _ => ?_))
   | exact ih0 _ _ _ _ _ _ _ _ _ _ _ _ _ _ _
   | exact ih1 _ _ _ _ _ _ _ _ _ _ _ _ _ _ _
   | exact ih2 _ _ _ _ _ _ _ _ _ _ _ _ _ _ _ _
   | exact ih3 _ _ _ _ _ _ _ _ _ _ _ _ _ _ _ _ _ _
   | exact ih4 _ _ _ _ _ _ _ _ _ _ _ _ _ _ _ _ _ _
   | exact ih5 _ _
   | exact ih6 _ _
   | exact ih7 _ _ _ _
   | exact LeO.none _
   | refine LeO.ite ?_ ?_
   | refine LeO.bind ?_ (fun _ => ?_)
  ·intro y0 y1 y2 y3
   unfold api_Pred_at_pred_rightAt_1_2.l0
   repeat' first
   | (with_reducible exact ih0 _ _ _ _ _ _ _ _ _ _ _ _ _ _ _)
   | (with_reducible exact ih1 _ _ _ _ _ _ _ _ _ _ _ _ _ _ _)
   | (with_reducible exact ih2 _ _ _ _ _ _ _ _ _ _ _ _ _ _ _ _)
   | (with_reducible exact ih3 _ _ _ _ _ _ _ _ _ _ _ _ _ _ _ _ _ _)
   | (with_reducible exact ih4 _ _ _ _ _ _ _ _ _ _ _ _ _ _ _ _ _ _)
   | (with_reducible exact ih5 _ _)
   | (with_reducible exact ih6 _ _)
   | (with_reducible exact ih7 _ _ _ _)
   | (with_reducible exact LeO.refl _)
   | (with_reducible exact LeO.none _)
   | (with_reducible refine LeO.ite ?_ ?_)
   | (with_reducible refine LeO.bind ?_ (fun _ => ?_))
   | exact ih0 _ _ _ _ _ _ _ _ _ _ _ _ _ _ _
   | exact ih1 _ _ _ _ _ _ _ _ _ _ _ _ _ _ _
   | exact ih2 _ _ _ _ _ _ _ _ _ _ _ _ _ _ _ _
   | exact ih3 _ _ _ _ _ _ _ _ _ _ _ _ _ _ _ _ _ _
   | exact ih4 _ _ _ _ _ _ _ _ _ _ _ _ _ _ _ _ _ _
   | exact ih5 _ _
   | exact ih6 _ _
   | exact ih7 _ _ _ _
   | exact LeO.none _
   | refine LeO.ite ?_ ?_
   | refine LeO.bind ?_ (fun _ => ?_)
theorem pred_rightAt_1.mono : ∀ a0 a1 a2 a3 a4 a5 a6 a7 a8 a9 a10 a11 a12 a13 a14 k, LeO (pred_rightAt_1.f k a0 a1 a2 a3 a4 a5 a6 a7 a8 a9 a10 a11 a12 a13 a14) (pred_rightAt_1.f (k + 1) a0 a1 a2 a3 a4 a5 a6 a7 a8 a9 a10 a11 a12 a13 a14) := by
 intro a0 a1 a2 a3 a4 a5 a6 a7 a8 a9 a10 a11 a12 a13 a14 k
 obtain ⟨ih0, ih1, ih2, ih3, ih4, ih5, ih6, ih7⟩ := pred_rightAt_1.mono_g k
 exact ih0 a0 a1 a2 a3 a4 a5 a6 a7 a8 a9 a10 a11 a12 a13 a14
theorem pred_rightAt.mono : ∀ a0 a1 a2 a3 a4 a5 a6 a7 a8 a9 a10 a11 a12 a13 a14 k, LeO (pred_rightAt.f k a0 a1 a2 a3 a4 a5 a6 a7 a8 a9 a10 a11 a12 a13 a14) (pred_rightAt.f (k + 1) a0 a1 a2 a3 a4 a5 a6 a7 a8 a9 a10 a11 a12 a13 a14) := by
 intro a0 a1 a2 a3 a4 a5 a6 a7 a8 a9 a10 a11 a12 a13 a14 k
 obtain ⟨ih0, ih1, ih2, ih3, ih4, ih5, ih6, ih7⟩ := pred_rightAt_1.mono_g k
 exact ih1 a0 a1 a2 a3 a4 a5 a6 a7 a8 a9 a10 a11 a12 a13 a14
theorem api_Pred_at_pred_rightAt_1.mono : ∀ a0 a1 k, LeO (api_Pred_at_pred_rightAt_1.f k a0 a1) (api_Pred_at_pred_rightAt_1.f (k + 1) a0 a1) := by
 intro a0 a1 k
 obtain ⟨ih0, ih1, ih2, ih3, ih4, ih5, ih6, ih7⟩ := pred_rightAt_1.mono_g k
 exact ih5 a0 a1
theorem api_Pred_at_pred_rightAt_1_2.mono : ∀ a0 a1 k, LeO (api_Pred_at_pred_rightAt_1_2.f k a0 a1) (api_Pred_at_pred_rightAt_1_2.f (k + 1) a0 a1) := by
 intro a0 a1 k
 obtain ⟨ih0, ih1, ih2, ih3, ih4, ih5, ih6, ih7⟩ := pred_rightAt_1.mono_g k
 exact ih6 a0 a1
@[reducible] def pred_rightAt_1.Says (k : Nat) : Prop := ∀ (a0_0 : Int) (a0_1 : Int) (a0_2 : Int) (a0_3 : Int) (a0_4 : Int) (a0_5 : Int) (a0_6 : Bool) (a0_7 : Int) (a0_8 : Int) (a0_9 : Int) (a0_10 : Int) (a0_11 : Bool) (a0_12 : Int) (A0_13 : Option Addr) (c0_13 : Nat) (l0_13 : List (S46)) (g1 : Nat) (a1_0 : Int) (r : Bool) (w : World) (hr0_13 : Kd.C k46 w A0_13 l0_13.length l0_13) (hc0_13 : l0_13.length ≤ c0_13) (hb1 : w.heap[g1]? = some (.cells #[.int .i64 a1_0] 3 (0, 0))) (h : pred_rightAt_1.f k a0_0 a0_1 a0_2 a0_3 a0_4 a0_5 a0_6 a0_7 a0_8 a0_9 a0_10 a0_11 a0_12 l0_13 a1_0 = some r),
  Calls Try.prog 103 #[.agg #[.int .i64 a0_0, .int .i64 a0_1, .int .i64 a0_2, .int .i64 a0_3, .int .i64 a0_4, .int .i64 a0_5, .bool a0_6, .int .i64 a0_7, .int .i64 a0_8, .int .i64 a0_9, .int .i64 a0_10, .bool a0_11, .int .i64 a0_12, .slice A0_13 l0_13.length c0_13], .pointer (some ⟨g1, 0, none⟩)] w fun e w' => e = .returned (.bool r) ∧ Below w.heap.size w w'
@[reducible] def pred_rightAt.Says (k : Nat) : Prop := ∀ (a0_0 : Int) (a0_1 : Int) (a0_2 : Int) (a0_3 : Int) (a0_4 : Int) (a0_5 : Int) (a0_6 : Bool) (a0_7 : Int) (a0_8 : Int) (a0_9 : Int) (a0_10 : Int) (a0_11 : Bool) (a0_12 : Int) (A0_13 : Option Addr) (c0_13 : Nat) (l0_13 : List (S46)) (a1 : Int) (r : Bool) (w : World) (hr0_13 : Kd.C k46 w A0_13 l0_13.length l0_13) (hc0_13 : l0_13.length ≤ c0_13) (h : pred_rightAt.f k a0_0 a0_1 a0_2 a0_3 a0_4 a0_5 a0_6 a0_7 a0_8 a0_9 a0_10 a0_11 a0_12 l0_13 a1 = some r),
  Calls Try.prog 74 #[.agg #[.int .i64 a0_0, .int .i64 a0_1, .int .i64 a0_2, .int .i64 a0_3, .int .i64 a0_4, .int .i64 a0_5, .bool a0_6, .int .i64 a0_7, .int .i64 a0_8, .int .i64 a0_9, .int .i64 a0_10, .bool a0_11, .int .i64 a0_12, .slice A0_13 l0_13.length c0_13], .int .i64 a1] w fun e w' => e = .returned (.bool r) ∧ Below w.heap.size w w'
@[reducible] def api_Pred_at_pred_rightAt_1.Says (k : Nat) : Prop := ∀ (A0 : Option Addr) (c0 : Nat) (l0 : List (S46))  (g2 : Nat) (a2_0 : Int) (r : Bool) (w : World) (hr0 : Kd.C k46 w A0 l0.length l0) (hc0 : l0.length ≤ c0) (hb2 : w.heap[g2]? = some (.cells #[.int .i64 a2_0] 3 (0, 0))) (h : api_Pred_at_pred_rightAt_1.f k l0 a2_0 = some r),
  Calls Try.prog 102 #[.slice A0 l0.length c0, .func (.func 103) #[] #[.pointer (some ⟨g2, 0, none⟩)]] w fun e w' => e = .returned (.bool r) ∧ Below w.heap.size w w'
@[reducible] def api_Pred_at_pred_rightAt_1_2.Says (k : Nat) : Prop := ∀ (A0 : Option Addr) (c0 : Nat) (l0 : List (S46))  (g2 : Nat) (a2_0 : Int) (r : Int) (w : World) (hr0 : Kd.C k46 w A0 l0.length l0) (hc0 : l0.length ≤ c0) (hb2 : w.heap[g2]? = some (.cells #[.int .i64 a2_0] 3 (0, 0))) (h : api_Pred_at_pred_rightAt_1_2.f k l0 a2_0 = some r),
  Calls Try.prog 109 #[.slice A0 l0.length c0, .func (.func 103) #[] #[.pointer (some ⟨g2, 0, none⟩)]] w fun e w' => e = .returned (.int .i64 r) ∧ Below w.heap.size w w'
set_option maxHeartbeats 8000000 in
set_option maxRecDepth 100000 in
theorem pred_rightAt_1.calls_of (k : Nat) (ih : ∀ j_, j_ < k → pred_rightAt_1.Says j_) (ihg_pred_rightAt : ∀ j_, j_ < k → pred_rightAt.Says j_) (ihg_api_Pred_at_pred_rightAt_1 : ∀ j_, j_ < k → api_Pred_at_pred_rightAt_1.Says j_) (ihg_api_Pred_at_pred_rightAt_1_2 : ∀ j_, j_ < k → api_Pred_at_pred_rightAt_1_2.Says j_) : pred_rightAt_1.Says k := by
 unfold pred_rightAt_1.Says
 intro a0_0 a0_1 a0_2 a0_3 a0_4 a0_5 a0_6 a0_7 a0_8 a0_9 a0_10 a0_11 a0_12 A0_13 c0_13 l0_13 g1 a1_0 r w hr0_13 hc0_13 hb1 h
 cases k with
 | zero => exact absurd h (by simp [pred_rightAt_1.f])
 | succ k =>
 simp only [pred_rightAt_1.f] at h
 have hu46 := Try.underlying46
 have HR0_13 := Aside0.mk hr0_13
 have HC0_13 := Aside0.mk hc0_13
 clear hr0_13 hc0_13
 have BK1 := Aside0.mk hb1
 clear hb1
 have HB := Aside0.mk (Below.refl w.heap.size w)
 have H : ((pred_rightAt.f k a0_0 a0_1 a0_2 a0_3 a0_4 a0_5 a0_6 a0_7 a0_8 a0_9 a0_10 a0_11 a0_12 l0_13 (wrap64 (a1_0 + 1))).bind fun t270 => (some (!t270))) = some r := h
 clear h
 replace H := Option.bind_eq_some_iff.mp H
 obtain ⟨t270, A30, H⟩ := H
 replace H : (some (!t270)) = some r := H
 have A3 := Aside0.mk A30
 clear A30
 obtain rfl := Option.some.inj H
 go_enter Try.func103, Try.ntmps103
 go_wp2_with (first | ((with_reducible refine gate_dst (N := 2) rfl ?_); refine box_event ?hg (N := 2) ?hd (cs := #[.int .i64 a0_0, .int .i64 a0_1, .int .i64 a0_2, .int .i64 a0_3, .int .i64 a0_4, .int .i64 a0_5, .bool a0_6, .int .i64 a0_7, .int .i64 a0_8, .int .i64 a0_9, .int .i64 a0_10, .bool a0_11, .int .i64 a0_12, .slice A0_13 l0_13.length c0_13]) (t := 46) ?hr ?_; (case hd => rfl); (case hg => rfl); (case hr => first | (go_simp; done) | (go_simp; rfl)); intro gb269 hg w4 hbox hb; have n0_ := Aside0.mk (blk_below (by (with_reducible repeat (first | refine blk_drewN ?_ _ | refine blk_drew ?_ | refine blk_alloc ?_ _)); exact BK1.out) hb); have n1_ := Aside0.mk (below_step (by repeat (first | (with_reducible first | exact HB.out | apply below_alloc | apply pw_below_drewN | apply below_drew1 | refine below_set ?_ GE1.out) | exact HB.out)) hb); have n2_ := Aside0.mk (hbox); have n3_ := Aside0.mk ((by rw [hg]; exact (below_size (by repeat (first | (with_reducible first | exact HB.out | apply below_alloc | apply pw_below_drewN | apply below_drew1 | refine below_set ?_ GE1.out) | exact HB.out))) : w.heap.size ≤ gb269)); have n4_ := n3_; have n5_ := Aside0.mk ((by rw [hg]; exact Nat.ne_of_lt (blk_lt (by (with_reducible repeat (first | refine blk_drewN ?_ _ | refine blk_drew ?_ | refine blk_alloc ?_ _)); exact BK1.out)) : g1 ≠ gb269)); have n6_ := Aside0.mk ((by rw [hg]; exact Nat.ne_of_gt (blk_lt (by (with_reducible repeat (first | refine blk_drewN ?_ _ | refine blk_drew ?_ | refine blk_alloc ?_ _)); exact BK1.out)) : gb269 ≠ g1)); clear BK1; clear HB; have BK1 := n0_; have HB := n1_; have BK269 := n2_; have GW269 := n3_; have GE269 := n4_; have NB1_269 := n5_; have NB269_1 := n6_; clear n0_ n1_ n2_ n3_ n4_ n5_ n6_; clear hb hbox hg; have hnb5 := NB269_1.out; have hnc5 := NB1_269.out; have hcz6 := blk_cell BK269.out; have hfz6 := blk_frozen BK269.out; have hcz7_0 : w4.cell? ⟨g1, 0, none⟩ = some (.int .i64 a1_0) := (blk_cell BK1.out 0).trans rfl; have hfz7_0 := blk_frozen BK1.out 0) | ((with_reducible refine gate_callee (f := 74) rfl ?_); refine goesL_ (some 7) rfl rfl Try.func74 (by kernel_rfl) rfl #[.agg #[.int .i64 a0_0, .int .i64 a0_1, .int .i64 a0_2, .int .i64 a0_3, .int .i64 a0_4, .int .i64 a0_5, .bool a0_6, .int .i64 a0_7, .int .i64 a0_8, .int .i64 a0_9, .int .i64 a0_10, .bool a0_11, .int .i64 a0_12, .slice A0_13 l0_13.length c0_13], .int .i64 (wrap64 (a1_0 + 1))] rfl (by (try simp only [List.map_toArray, List.map_cons, List.map_nil]); first | done | rfl | (simp only [List.length_drop, List.length_take]; rfl)) ?_; (with_reducible refine (ihg_pred_rightAt k (by omega) a0_0 a0_1 a0_2 a0_3 a0_4 a0_5 a0_6 a0_7 a0_8 a0_9 a0_10 a0_11 a0_12 _ _ l0_13 (wrap64 (a1_0 + 1)) t270 _ ?side1 ?side2 A3.out).mono ?_); (case side1 => repeat (first | exact (Kd.C_below HR0_13.out HB.out) | (with_reducible refine Kd.C_alloc ?_ _) | (with_reducible refine Kd.C_drewN ?_ _) | (with_reducible refine Kd.C_drew ?_))); (case side2 => exact HC0_13.out); rintro e w8 ⟨rfl, hb⟩; refine ⟨_, rfl, ?_⟩; have n0_ := Aside0.mk (blk_below (by (with_reducible repeat (first | refine blk_drewN ?_ _ | refine blk_drew ?_ | refine blk_alloc ?_ _)); exact BK1.out) hb); have n1_ := Aside0.mk (blk_below (by (with_reducible repeat (first | refine blk_drewN ?_ _ | refine blk_drew ?_ | refine blk_alloc ?_ _)); exact BK269.out) hb); have n2_ := Aside0.mk (below_step (by repeat (first | (with_reducible first | exact HB.out | apply below_alloc | apply pw_below_drewN | apply below_drew1 | refine below_set ?_ GE1.out | refine below_set ?_ GE269.out) | exact HB.out)) hb); clear BK1; clear BK269; clear HB; have BK1 := n0_; have BK269 := n1_; have HB := n2_; clear n0_ n1_ n2_; (try clear hb); (try clear hb2); (try clear hk); (try clear hi)))
 go_ret
 exact ⟨by first | rfl | (simp [errW_none, errW_some] <;> rfl) | (simp [*, errW_none, errW_some] <;> rfl), by repeat (first | (with_reducible first | exact HB.out | apply below_alloc | apply pw_below_drewN | apply below_drew1 | refine below_set ?_ GE1.out | refine below_set ?_ GE269.out) | exact HB.out)⟩
/-! ### pred_rightAt: function 74 -/
set_option maxHeartbeats 8000000 in
set_option maxRecDepth 100000 in
theorem pred_rightAt.calls_of (k : Nat) (ih : ∀ j_, j_ < k → pred_rightAt.Says j_) (ihg_pred_rightAt_1 : ∀ j_, j_ < k → pred_rightAt_1.Says j_) (ihg_api_Pred_at_pred_rightAt_1 : ∀ j_, j_ < k → api_Pred_at_pred_rightAt_1.Says j_) (ihg_api_Pred_at_pred_rightAt_1_2 : ∀ j_, j_ < k → api_Pred_at_pred_rightAt_1_2.Says j_) : pred_rightAt.Says k := by
 unfold pred_rightAt.Says
 intro a0_0 a0_1 a0_2 a0_3 a0_4 a0_5 a0_6 a0_7 a0_8 a0_9 a0_10 a0_11 a0_12 A0_13 c0_13 l0_13 a1 r w hr0_13 hc0_13 h
 cases k with
 | zero => exact absurd h (by simp [pred_rightAt.f])
 | succ k =>
 simp only [pred_rightAt.f] at h
 have hu46 := Try.underlying46
 have hu44 := Try.underlying44
 have hmf : ∀ (fn : Fn) (first cap : Array Value) (w : World), (Instr.makeFunc fn first cap).run Try.prog w = .ok (.func fn first cap) w := fun _ _ _ _ => rfl
 have HR0_13 := Aside0.mk hr0_13
 have HC0_13 := Aside0.mk hc0_13
 clear hr0_13 hc0_13
 have HB := Aside0.mk (Below.refl w.heap.size w)
 have H : (if a1 > 4 then (pred_rightAt.j0 k true a0_0 a0_1 a0_2 a0_3 a0_4 a0_5 a0_6 a0_7 a0_8 a0_9 a0_10 a0_11 a0_12 l0_13 a1) else ((pred_bare.f a0_0 a0_1 a0_2 a0_3 a0_4 a0_5 a0_6 a0_7 a0_8 a0_9 a0_10 a0_11 a0_12 l0_13).bind fun t273 => (pred_rightAt.j0 k (!t273) a0_0 a0_1 a0_2 a0_3 a0_4 a0_5 a0_6 a0_7 a0_8 a0_9 a0_10 a0_11 a0_12 l0_13 a1))) = some r := h
 clear h
 have HC3 := Aside0.mk H
 clear H
 go_enter Try.func74, Try.ntmps74
 go_upto_region 1 with (first | ((with_reducible refine gate_dst (N := 2) rfl ?_); (try (refine gate_guard (by rfl) ?_; dsimp only)); refine box_event ?hg (N := 2) ?hd (cs := #[.int .i64 a0_0, .int .i64 a0_1, .int .i64 a0_2, .int .i64 a0_3, .int .i64 a0_4, .int .i64 a0_5, .bool a0_6, .int .i64 a0_7, .int .i64 a0_8, .int .i64 a0_9, .int .i64 a0_10, .bool a0_11, .int .i64 a0_12, .slice A0_13 l0_13.length c0_13]) (t := 46) ?hr ?_; (case hd => rfl); (case hg => rfl); (case hr => first | (go_simp; done) | (go_simp; rfl)); intro gb271 hg w4 hbox hb; have n0_ := Aside0.mk (below_step (by repeat (first | (with_reducible first | exact HB.out | apply below_alloc | apply pw_below_drewN | apply below_drew1) | exact HB.out)) hb); have n1_ := Aside0.mk (hbox); have n2_ := Aside0.mk ((by rw [hg]; exact (below_size (by repeat (first | (with_reducible first | exact HB.out | apply below_alloc | apply pw_below_drewN | apply below_drew1) | exact HB.out))) : w.heap.size ≤ gb271)); have n3_ := n2_; clear HB; have HB := n0_; have BK271 := n1_; have GW271 := n2_; have GE271 := n3_; clear n0_ n1_ n2_ n3_; clear hb hbox hg) | ((with_reducible refine gate_dst (N := 3) rfl ?_); (try (refine gate_guard (by rfl) ?_; dsimp only)); refine box_event ?hg (N := 3) ?hd (cs := #[.int .i64 a1]) (t := 3) ?hr ?_; (case hd => rfl); (case hg => rfl); (case hr => first | (go_simp; done) | (go_simp; rfl)); intro gb272 hg w5 hbox hb; have n0_ := Aside0.mk (blk_below (by (with_reducible repeat (first | refine blk_drewN ?_ _ | refine blk_drew ?_ | refine blk_alloc ?_ _)); exact BK271.out) hb); have n1_ := Aside0.mk (below_step (by repeat (first | (with_reducible first | exact HB.out | apply below_alloc | apply pw_below_drewN | apply below_drew1 | refine below_set ?_ GE271.out) | exact HB.out)) hb); have n2_ := Aside0.mk (hbox); have n3_ := Aside0.mk ((by rw [hg]; exact (below_size (by repeat (first | (with_reducible first | exact HB.out | apply below_alloc | apply pw_below_drewN | apply below_drew1 | refine below_set ?_ GE271.out) | exact HB.out))) : w.heap.size ≤ gb272)); have n4_ := n3_; have n5_ := Aside0.mk ((by rw [hg]; exact Nat.ne_of_lt (blk_lt (by (with_reducible repeat (first | refine blk_drewN ?_ _ | refine blk_drew ?_ | refine blk_alloc ?_ _)); exact BK271.out)) : gb271 ≠ gb272)); have n6_ := Aside0.mk ((by rw [hg]; exact Nat.ne_of_gt (blk_lt (by (with_reducible repeat (first | refine blk_drewN ?_ _ | refine blk_drew ?_ | refine blk_alloc ?_ _)); exact BK271.out)) : gb272 ≠ gb271)); clear BK271; clear HB; have BK271 := n0_; have HB := n1_; have BK272 := n2_; have GW272 := n3_; have GE272 := n4_; have NB271_272 := n5_; have NB272_271 := n6_; clear n0_ n1_ n2_ n3_ n4_ n5_ n6_; clear hb hbox hg))
 (try simp only [Act.put, List.setIfInBounds_toArray, List.set_cons_zero, List.set_cons_succ])
 go_cut [13] (fun v13 wc => ∃ (kq : Nat) (x13_2 : Bool), v13 = .bool x13_2 ∧ Aside0 (pred_rightAt.j0 kq x13_2 a0_0 a0_1 a0_2 a0_3 a0_4 a0_5 a0_6 a0_7 a0_8 a0_9 a0_10 a0_11 a0_12 l0_13 a1 = some r) ∧ Aside0 (kq ≤ k) ∧ Aside0 (wc.heap[gb271]? = some (.cells #[.int .i64 a0_0, .int .i64 a0_1, .int .i64 a0_2, .int .i64 a0_3, .int .i64 a0_4, .int .i64 a0_5, .bool a0_6, .int .i64 a0_7, .int .i64 a0_8, .int .i64 a0_9, .int .i64 a0_10, .bool a0_11, .int .i64 a0_12, (.slice A0_13 l0_13.length c0_13)] 46 (0, 0))) ∧ Aside0 (wc.heap[gb272]? = some (.cells #[.int .i64 a1] 3 (0, 0))) ∧ Aside0 (Below w.heap.size w wc))
 case first =>
  have H := HC3.out
  clear HC3
  by_cases c6 : a1 > 4
  ·rw [if_pos c6] at H
   have c6b0 : decide (4 < a1) = true := decide_eq_true c6
   clear c6
   (first | rw [c6b0] | (simp only [i64_w, i32_w]; rw [c6b0]) | skip)
   have H' := Aside0.mk H
   clear H
   have hnb7 := NB272_271.out
   have hnc7 := NB271_272.out
   have hcz8_0 : w5.cell? ⟨gb272, 0, none⟩ = some (.int .i64 a1) := (blk_cell BK272.out 0).trans rfl
   have hfz8_0 := blk_frozen BK272.out 0
   go_wp2
   go_meet
   case rel => exact ⟨_, (true), (by first | rfl | (simp; done) | (simp [*]; done)), H', ⟨by first | omega | exact Nat.le_refl _⟩, ⟨by (with_reducible repeat (first | refine blk_drewN ?_ _ | refine blk_drew ?_ | refine blk_alloc ?_ _)); exact BK271.out⟩, ⟨by (with_reducible repeat (first | refine blk_drewN ?_ _ | refine blk_drew ?_ | refine blk_alloc ?_ _)); exact BK272.out⟩, ⟨by repeat (first | (with_reducible first | exact HB.out | apply below_alloc | apply pw_below_drewN | apply below_drew1 | refine below_set ?_ GE271.out | refine below_set ?_ GE272.out) | exact HB.out)⟩⟩
  ·rw [if_neg c6] at H
   have c6b0 : decide (4 < a1) = false := decide_eq_false c6
   clear c6
   (first | rw [c6b0] | (simp only [i64_w, i32_w]; rw [c6b0]) | skip)
   replace H := Option.bind_eq_some_iff.mp H
   obtain ⟨t273, A90, H⟩ := H
   replace H : (pred_rightAt.j0 k (!t273) a0_0 a0_1 a0_2 a0_3 a0_4 a0_5 a0_6 a0_7 a0_8 a0_9 a0_10 a0_11 a0_12 l0_13 a1) = some r := H
   have A9 := Aside0.mk A90
   clear A90
   have H' := Aside0.mk H
   clear H
   have hnb10 := NB272_271.out
   have hnc10 := NB271_272.out
   have hcz11_0 : w5.cell? ⟨gb272, 0, none⟩ = some (.int .i64 a1) := (blk_cell BK272.out 0).trans rfl
   have hfz11_0 := blk_frozen BK272.out 0
   have hcz12 := blk_cell BK271.out
   have hfz12 := blk_frozen BK271.out
   go_wp2_with (first | (go_at_call 99; (with_reducible refine (pred_bare.calls a0_0 a0_1 a0_2 a0_3 a0_4 a0_5 a0_6 a0_7 a0_8 a0_9 a0_10 a0_11 a0_12 _ _ l0_13 t273 _ ?side1 ?side2 A9.out).mono ?_); (case side1 => repeat (first | exact (Kd.C_below HR0_13.out HB.out) | (with_reducible refine Kd.C_alloc ?_ _) | (with_reducible refine Kd.C_drewN ?_ _) | (with_reducible refine Kd.C_drew ?_))); (case side2 => exact HC0_13.out); rintro e w13 ⟨rfl, hb⟩; have n0_ := Aside0.mk (blk_below (by (with_reducible repeat (first | refine blk_drewN ?_ _ | refine blk_drew ?_ | refine blk_alloc ?_ _)); exact BK271.out) hb); have n1_ := Aside0.mk (blk_below (by (with_reducible repeat (first | refine blk_drewN ?_ _ | refine blk_drew ?_ | refine blk_alloc ?_ _)); exact BK272.out) hb); have n2_ := Aside0.mk (below_step (by repeat (first | (with_reducible first | exact HB.out | apply below_alloc | apply pw_below_drewN | apply below_drew1 | refine below_set ?_ GE271.out | refine below_set ?_ GE272.out) | exact HB.out)) hb); clear BK271; clear BK272; clear HB; have BK271 := n0_; have BK272 := n1_; have HB := n2_; clear n0_ n1_ n2_; (try clear hb); (try clear hb2); (try clear hk); (try clear hi)))
   go_meet
   case rel => exact ⟨_, (!t273), (by first | rfl | (simp; done) | (simp [*]; done)), H', ⟨by first | omega | exact Nat.le_refl _⟩, ⟨by (with_reducible repeat (first | refine blk_drewN ?_ _ | refine blk_drew ?_ | refine blk_alloc ?_ _)); exact BK271.out⟩, ⟨by (with_reducible repeat (first | refine blk_drewN ?_ _ | refine blk_drew ?_ | refine blk_alloc ?_ _)); exact BK272.out⟩, ⟨by repeat (first | (with_reducible first | exact HB.out | apply below_alloc | apply pw_below_drewN | apply below_drew1 | refine below_set ?_ GE271.out | refine below_set ?_ GE272.out) | exact HB.out)⟩⟩
 case rest =>
  clear HC3
  try clear c1
  try clear p2
  try clear c6
  try clear c6b0
  try clear c7
  try clear c10
  try clear hcz11_0
  try clear hcz12
  try clear hcz8_0
  try clear hfz11_0
  try clear hfz12
  try clear hfz8_0
  obtain ⟨kq, x13_2, rfl, HA, HJ2, BK271, BK272, HB⟩ := hcut
  cases kq with
  | zero => exact absurd HA.out (by simp [pred_rightAt.j0])
  | succ kj2 =>
   have H := HA.out
   clear HA
   simp only [pred_rightAt.j0] at H
   by_cases c14 : x13_2 = true
   ·subst c14
    have H1 : (some false) = some r := by rw [if_pos rfl] at H; exact H
    clear H
    have H := H1
    clear H1
    obtain rfl := Option.some.inj H
    go_wp2
    go_ret
    exact ⟨by first | rfl | (simp [errW_none, errW_some] <;> rfl) | (simp [*, errW_none, errW_some] <;> rfl), by repeat (first | (with_reducible first | exact HB.out | apply below_alloc | apply pw_below_drewN | apply below_drew1 | refine below_set ?_ GE271.out | refine below_set ?_ GE272.out) | exact HB.out)⟩
   ·replace c14 := Bool.eq_false_iff.mpr c14
    subst c14
    have H1 : (if a0_0 = 1 then ((logic_Right.f a0_1).bind fun t274 => (if t274 = true then (if (l0_13.length : Int) < 0 then (some false) else (if (l0_13.length : Int) > 0 then (some false) else ((api_Pred_at_pred_rightAt_1.f kj2 l0_13 a1).bind fun t275 => (some (!t275))))) else (some false))) else (if a0_0 = 2 then (if a0_2 < 1 then (pred_rightAt.j1 kj2 0 0 true a0_0 a0_1 a0_2 a0_3 a0_4 a0_5 a0_6 a0_7 a0_8 a0_9 a0_10 a0_11 a0_12 l0_13 a1) else (if a0_2 > 6 then (pred_rightAt.j1 kj2 0 0 true a0_0 a0_1 a0_2 a0_3 a0_4 a0_5 a0_6 a0_7 a0_8 a0_9 a0_10 a0_11 a0_12 l0_13 a1) else ((term_Right.f a0_3 a0_4 a0_5 a0_6 a0_7).bind fun t276 => (if t276 = true then ((term_Right.f a0_8 a0_9 a0_10 a0_11 a0_12).bind fun t277 => (pred_rightAt.j1 kj2 0 0 (!t277) a0_0 a0_1 a0_2 a0_3 a0_4 a0_5 a0_6 a0_7 a0_8 a0_9 a0_10 a0_11 a0_12 l0_13 a1)) else (pred_rightAt.j1 kj2 0 0 true a0_0 a0_1 a0_2 a0_3 a0_4 a0_5 a0_6 a0_7 a0_8 a0_9 a0_10 a0_11 a0_12 l0_13 a1))))) else (if a0_0 = 3 then ((term_Right.f a0_3 a0_4 a0_5 a0_6 a0_7).bind fun t279 => (if t279 = true then (if (l0_13.length : Int) < 0 then (some false) else (if (l0_13.length : Int) > 0 then (some false) else ((api_Pred_at_pred_rightAt_1.f kj2 l0_13 a1).bind fun t280 => (some (!t280))))) else (some false))) else (if a0_0 = 4 then (pred_rightAt.j2 kj2 0 a0_0 (a0_0 == 4) a0_0 a0_1 a0_2 a0_3 a0_4 a0_5 a0_6 a0_7 a0_8 a0_9 a0_10 a0_11 a0_12 l0_13 a1) else (pred_rightAt.j2 kj2 0 a0_0 (a0_0 == 5) a0_0 a0_1 a0_2 a0_3 a0_4 a0_5 a0_6 a0_7 a0_8 a0_9 a0_10 a0_11 a0_12 l0_13 a1))))) = some r := by rw [if_neg (show ¬ (false = true) by decide)] at H; exact H
    clear H
    have H := H1
    clear H1
    by_cases c15 : a0_0 = 1
    ·rw [if_pos c15] at H
     have c15b0 : (a0_0 == 1) = true := beq_iff_eq.mpr c15
     have c15b1 : (a0_0 != 1) = false := bne_eq_false_iff_eq.mpr c15
     clear c15
     replace H := Option.bind_eq_some_iff.mp H
     obtain ⟨t274, A160, H⟩ := H
     replace H : (if t274 = true then (if (l0_13.length : Int) < 0 then (some false) else (if (l0_13.length : Int) > 0 then (some false) else ((api_Pred_at_pred_rightAt_1.f kj2 l0_13 a1).bind fun t275 => (some (!t275))))) else (some false)) = some r := H
     have A16 := Aside0.mk A160
     clear A160
     by_cases c17 : t274 = true
     ·subst c17
      have H1 : (if (l0_13.length : Int) < 0 then (some false) else (if (l0_13.length : Int) > 0 then (some false) else ((api_Pred_at_pred_rightAt_1.f kj2 l0_13 a1).bind fun t275 => (some (!t275))))) = some r := by rw [if_pos rfl] at H; exact H
      clear H
      have H := H1
      clear H1
      by_cases c18 : (l0_13.length : Int) < 0
      ·rw [if_pos c18] at H
       have c18b0 : decide ((l0_13.length : Int) < 0) = true := decide_eq_true c18
       have c18b1 : decide (l0_13.length < 0) = true := decide_eq_true (by omega)
       clear c18
       obtain rfl := Option.some.inj H
       have hnb19 := NB271_272.out
       have hnc19 := NB272_271.out
       have hcz20 := blk_cell BK271.out
       have hfz20 := blk_frozen BK271.out
       go_wp2_with (first | ((with_reducible refine gate_callee (f := 100) rfl ?_); refine goesL_ (some 20) rfl rfl Try.func100 (by kernel_rfl) rfl #[.int .i64 a0_1] rfl (by (try simp only [List.map_toArray, List.map_cons, List.map_nil]); first | done | rfl | (simp only [List.length_drop, List.length_take]; rfl)) ?_; (with_reducible refine (logic_Right.calls a0_1 true _ A16.out).mono ?_); rintro e w' ⟨rfl, ⟨nd, rfl⟩⟩; refine ⟨_, rfl, ?_⟩))
       go_ret
       exact ⟨by first | rfl | (simp [errW_none, errW_some] <;> rfl) | (simp [*, errW_none, errW_some] <;> rfl), by repeat (first | (with_reducible first | exact HB.out | apply below_alloc | apply pw_below_drewN | apply below_drew1 | refine below_set ?_ GE271.out | refine below_set ?_ GE272.out) | exact HB.out)⟩
      ·rw [if_neg c18] at H
       have c18b0 : decide ((l0_13.length : Int) < 0) = false := decide_eq_false c18
       have c18b1 : decide (l0_13.length < 0) = false := decide_eq_false (by omega)
       clear c18
       by_cases c21 : (l0_13.length : Int) > 0
       ·rw [if_pos c21] at H
        have c21b0 : decide (0 < (l0_13.length : Int)) = true := decide_eq_true c21
        have c21b1 : decide (0 < l0_13.length) = true := decide_eq_true (by omega)
        clear c21
        obtain rfl := Option.some.inj H
        have hnb22 := NB271_272.out
        have hnc22 := NB272_271.out
        have hcz23 := blk_cell BK271.out
        have hfz23 := blk_frozen BK271.out
        go_wp2_with (first | ((with_reducible refine gate_callee (f := 100) rfl ?_); refine goesL_ (some 20) rfl rfl Try.func100 (by kernel_rfl) rfl #[.int .i64 a0_1] rfl (by (try simp only [List.map_toArray, List.map_cons, List.map_nil]); first | done | rfl | (simp only [List.length_drop, List.length_take]; rfl)) ?_; (with_reducible refine (logic_Right.calls a0_1 true _ A16.out).mono ?_); rintro e w' ⟨rfl, ⟨nd, rfl⟩⟩; refine ⟨_, rfl, ?_⟩))
        go_ret
        exact ⟨by first | rfl | (simp [errW_none, errW_some] <;> rfl) | (simp [*, errW_none, errW_some] <;> rfl), by repeat (first | (with_reducible first | exact HB.out | apply below_alloc | apply pw_below_drewN | apply below_drew1 | refine below_set ?_ GE271.out | refine below_set ?_ GE272.out) | exact HB.out)⟩
       ·rw [if_neg c21] at H
        have c21b0 : decide (0 < (l0_13.length : Int)) = false := decide_eq_false c21
        have c21b1 : decide (0 < l0_13.length) = false := decide_eq_false (by omega)
        clear c21
        replace H := Option.bind_eq_some_iff.mp H
        obtain ⟨t275, A240, H⟩ := H
        replace H : (some (!t275)) = some r := H
        have A24 := Aside0.mk A240
        clear A240
        obtain rfl := Option.some.inj H
        have hnb25 := NB271_272.out
        have hnc25 := NB272_271.out
        have hcz26 := blk_cell BK271.out
        have hfz26 := blk_frozen BK271.out
        go_wp2_with (first | ((with_reducible refine gate_callee (f := 100) rfl ?_); refine goesL_ (some 20) rfl rfl Try.func100 (by kernel_rfl) rfl #[.int .i64 a0_1] rfl (by (try simp only [List.map_toArray, List.map_cons, List.map_nil]); first | done | rfl | (simp only [List.length_drop, List.length_take]; rfl)) ?_; (with_reducible refine (logic_Right.calls a0_1 true _ A16.out).mono ?_); rintro e w' ⟨rfl, ⟨nd, rfl⟩⟩; refine ⟨_, rfl, ?_⟩) | ((with_reducible refine gate_callee (f := 102) rfl ?_); refine goesL_ (some 70) rfl rfl Try.func102 (by kernel_rfl) rfl #[.slice A0_13 l0_13.length c0_13, .func (.func 103) #[] #[.pointer (some ⟨gb272, 0, none⟩)]] rfl (by (try simp only [List.map_toArray, List.map_cons, List.map_nil]); first | done | rfl | (simp only [List.length_drop, List.length_take]; rfl)) ?_; (with_reducible refine (ihg_api_Pred_at_pred_rightAt_1 kj2 (by have := HJ2.out; omega) _ _ l0_13  gb272 a1 t275 _ ?side1 ?side2 ?side3 A24.out).mono ?_); (case side1 => repeat (first | exact (Kd.C_below HR0_13.out (by repeat (first | (with_reducible first | exact HB.out | apply below_alloc | apply pw_below_drewN | apply below_drew1 | refine below_set ?_ GE271.out | refine below_set ?_ GE272.out) | exact HB.out))) | (with_reducible refine Kd.C_alloc ?_ _) | (with_reducible refine Kd.C_drewN ?_ _) | (with_reducible refine Kd.C_drew ?_))); (case side2 => exact HC0_13.out); (case side3 => (with_reducible repeat (first | refine blk_drewN ?_ _ | refine blk_drew ?_ | refine blk_alloc ?_ _)); exact BK272.out); rintro e w27 ⟨rfl, hb⟩; refine ⟨_, rfl, ?_⟩; have n0_ := Aside0.mk (blk_below (by (with_reducible repeat (first | refine blk_drewN ?_ _ | refine blk_drew ?_ | refine blk_alloc ?_ _)); exact BK271.out) hb); have n1_ := Aside0.mk (blk_below (by (with_reducible repeat (first | refine blk_drewN ?_ _ | refine blk_drew ?_ | refine blk_alloc ?_ _)); exact BK272.out) hb); have n2_ := Aside0.mk (below_step (by repeat (first | (with_reducible first | exact HB.out | apply below_alloc | apply pw_below_drewN | apply below_drew1 | refine below_set ?_ GE271.out | refine below_set ?_ GE272.out) | exact HB.out)) hb); clear BK271; clear BK272; clear HB; have BK271 := n0_; have BK272 := n1_; have HB := n2_; clear n0_ n1_ n2_; (try clear hb); (try clear hb2); (try clear hk); (try clear hi)))
        go_ret
        exact ⟨by first | rfl | (simp [errW_none, errW_some] <;> rfl) | (simp [*, errW_none, errW_some] <;> rfl), by repeat (first | (with_reducible first | exact HB.out | apply below_alloc | apply pw_below_drewN | apply below_drew1 | refine below_set ?_ GE271.out | refine below_set ?_ GE272.out) | exact HB.out)⟩
     ·replace c17 := Bool.eq_false_iff.mpr c17
      subst c17
      have H1 : (some false) = some r := by rw [if_neg (show ¬ (false = true) by decide)] at H; exact H
      clear H
      have H := H1
      clear H1
      obtain rfl := Option.some.inj H
      have hnb28 := NB271_272.out
      have hnc28 := NB272_271.out
      have hcz29 := blk_cell BK271.out
      have hfz29 := blk_frozen BK271.out
      go_wp2_with (first | ((with_reducible refine gate_callee (f := 100) rfl ?_); refine goesL_ (some 20) rfl rfl Try.func100 (by kernel_rfl) rfl #[.int .i64 a0_1] rfl (by (try simp only [List.map_toArray, List.map_cons, List.map_nil]); first | done | rfl | (simp only [List.length_drop, List.length_take]; rfl)) ?_; (with_reducible refine (logic_Right.calls a0_1 false _ A16.out).mono ?_); rintro e w' ⟨rfl, ⟨nd, rfl⟩⟩; refine ⟨_, rfl, ?_⟩))
      go_ret
      exact ⟨by first | rfl | (simp [errW_none, errW_some] <;> rfl) | (simp [*, errW_none, errW_some] <;> rfl), by repeat (first | (with_reducible first | exact HB.out | apply below_alloc | apply pw_below_drewN | apply below_drew1 | refine below_set ?_ GE271.out | refine below_set ?_ GE272.out) | exact HB.out)⟩
    ·rw [if_neg c15] at H
     have c15b0 : (a0_0 == 1) = false := beq_eq_false_iff_ne.mpr c15
     have c15b1 : (a0_0 != 1) = true := bne_iff_ne.mpr c15
     by_cases c30 : a0_0 = 2
     ·rw [if_pos c30] at H
      have c30b0 : (a0_0 == 2) = true := beq_iff_eq.mpr c30
      have c30b1 : (a0_0 != 2) = false := bne_eq_false_iff_eq.mpr c30
      clear c30
      have HC31 := Aside0.mk H
      clear H
      have hnb32 := NB271_272.out
      have hnc32 := NB272_271.out
      have hcz33 := blk_cell BK271.out
      have hfz33 := blk_frozen BK271.out
      go_upto_region 10 with (fail)
      go_cut [43] (fun v43 wc => ∃ (kq : Nat) (x43_30 : Bool), v43 = .bool x43_30 ∧ Aside0 (pred_rightAt.j1 kq 0 0 x43_30 a0_0 a0_1 a0_2 a0_3 a0_4 a0_5 a0_6 a0_7 a0_8 a0_9 a0_10 a0_11 a0_12 l0_13 a1 = some r) ∧ Aside0 (kq ≤ kj2) ∧ Aside0 (wc.heap[gb271]? = some (.cells #[.int .i64 a0_0, .int .i64 a0_1, .int .i64 a0_2, .int .i64 a0_3, .int .i64 a0_4, .int .i64 a0_5, .bool a0_6, .int .i64 a0_7, .int .i64 a0_8, .int .i64 a0_9, .int .i64 a0_10, .bool a0_11, .int .i64 a0_12, (.slice A0_13 l0_13.length c0_13)] 46 (0, 0))) ∧ Aside0 (wc.heap[gb272]? = some (.cells #[.int .i64 a1] 3 (0, 0))) ∧ Aside0 (Below w.heap.size w wc))
      case first =>
       have H := HC31.out
       clear HC31
       by_cases c34 : a0_2 < 1
       ·rw [if_pos c34] at H
        have c34b0 : decide (a0_2 < 1) = true := decide_eq_true c34
        clear c34
        (first | rw [c34b0] | (simp only [i64_w, i32_w]; rw [c34b0]) | skip)
        have H' := Aside0.mk H
        clear H
        have hnb35 := NB271_272.out
        have hnc35 := NB272_271.out
        have hcz36 := blk_cell BK271.out
        have hfz36 := blk_frozen BK271.out
        go_wp2
        go_meet
        case rel => exact ⟨_, (true), (by first | rfl | (simp; done) | (simp [*]; done)), H', ⟨by have := HJ2.out; first | omega | exact Nat.le_refl _⟩, ⟨by (with_reducible repeat (first | refine blk_drewN ?_ _ | refine blk_drew ?_ | refine blk_alloc ?_ _)); exact BK271.out⟩, ⟨by (with_reducible repeat (first | refine blk_drewN ?_ _ | refine blk_drew ?_ | refine blk_alloc ?_ _)); exact BK272.out⟩, ⟨by repeat (first | (with_reducible first | exact HB.out | apply below_alloc | apply pw_below_drewN | apply below_drew1 | refine below_set ?_ GE271.out | refine below_set ?_ GE272.out) | exact HB.out)⟩⟩
       ·rw [if_neg c34] at H
        have c34b0 : decide (a0_2 < 1) = false := decide_eq_false c34
        clear c34
        (first | rw [c34b0] | (simp only [i64_w, i32_w]; rw [c34b0]) | skip)
        by_cases c37 : a0_2 > 6
        ·rw [if_pos c37] at H
         have c37b0 : decide (6 < a0_2) = true := decide_eq_true c37
         clear c37
         have H' := Aside0.mk H
         clear H
         have hnb38 := NB271_272.out
         have hnc38 := NB272_271.out
         have hcz39 := blk_cell BK271.out
         have hfz39 := blk_frozen BK271.out
         go_wp2
         go_meet
         case rel => exact ⟨_, (true), (by first | rfl | (simp; done) | (simp [*]; done)), H', ⟨by have := HJ2.out; first | omega | exact Nat.le_refl _⟩, ⟨by (with_reducible repeat (first | refine blk_drewN ?_ _ | refine blk_drew ?_ | refine blk_alloc ?_ _)); exact BK271.out⟩, ⟨by (with_reducible repeat (first | refine blk_drewN ?_ _ | refine blk_drew ?_ | refine blk_alloc ?_ _)); exact BK272.out⟩, ⟨by repeat (first | (with_reducible first | exact HB.out | apply below_alloc | apply pw_below_drewN | apply below_drew1 | refine below_set ?_ GE271.out | refine below_set ?_ GE272.out) | exact HB.out)⟩⟩
        ·rw [if_neg c37] at H
         have c37b0 : decide (6 < a0_2) = false := decide_eq_false c37
         clear c37
         replace H := Option.bind_eq_some_iff.mp H
         obtain ⟨t276, A400, H⟩ := H
         replace H : (if t276 = true then ((term_Right.f a0_8 a0_9 a0_10 a0_11 a0_12).bind fun t277 => (pred_rightAt.j1 kj2 0 0 (!t277) a0_0 a0_1 a0_2 a0_3 a0_4 a0_5 a0_6 a0_7 a0_8 a0_9 a0_10 a0_11 a0_12 l0_13 a1)) else (pred_rightAt.j1 kj2 0 0 true a0_0 a0_1 a0_2 a0_3 a0_4 a0_5 a0_6 a0_7 a0_8 a0_9 a0_10 a0_11 a0_12 l0_13 a1)) = some r := H
         have A40 := Aside0.mk A400
         clear A400
         by_cases c41 : t276 = true
         ·subst c41
          have H1 : ((term_Right.f a0_8 a0_9 a0_10 a0_11 a0_12).bind fun t277 => (pred_rightAt.j1 kj2 0 0 (!t277) a0_0 a0_1 a0_2 a0_3 a0_4 a0_5 a0_6 a0_7 a0_8 a0_9 a0_10 a0_11 a0_12 l0_13 a1)) = some r := by rw [if_pos rfl] at H; exact H
          clear H
          have H := H1
          clear H1
          replace H := Option.bind_eq_some_iff.mp H
          obtain ⟨t277, A420, H⟩ := H
          replace H : (pred_rightAt.j1 kj2 0 0 (!t277) a0_0 a0_1 a0_2 a0_3 a0_4 a0_5 a0_6 a0_7 a0_8 a0_9 a0_10 a0_11 a0_12 l0_13 a1) = some r := H
          have A42 := Aside0.mk A420
          clear A420
          have H' := Aside0.mk H
          clear H
          have hnb43 := NB271_272.out
          have hnc43 := NB272_271.out
          have hcz44 := blk_cell BK271.out
          have hfz44 := blk_frozen BK271.out
          go_wp2_with (first | (go_at_call 101; (with_reducible refine (term_Right.calls a0_3 a0_4 a0_5 a0_6 a0_7 true _ A40.out).mono ?_); rintro e w45 ⟨rfl, hb⟩; have n0_ := Aside0.mk (blk_below (by (with_reducible repeat (first | refine blk_drewN ?_ _ | refine blk_drew ?_ | refine blk_alloc ?_ _)); exact BK271.out) hb); have n1_ := Aside0.mk (blk_below (by (with_reducible repeat (first | refine blk_drewN ?_ _ | refine blk_drew ?_ | refine blk_alloc ?_ _)); exact BK272.out) hb); have n2_ := Aside0.mk (below_step (by repeat (first | (with_reducible first | exact HB.out | apply below_alloc | apply pw_below_drewN | apply below_drew1 | refine below_set ?_ GE271.out | refine below_set ?_ GE272.out) | exact HB.out)) hb); clear BK271; clear BK272; clear HB; have BK271 := n0_; have BK272 := n1_; have HB := n2_; clear n0_ n1_ n2_; (try clear hb); (try clear hb2); (try clear hk); (try clear hi); have hcz46 := blk_cell BK271.out; have hfz46 := blk_frozen BK271.out; have hfz46_13 := blk_frozen BK271.out 13) | (go_at_call 101; (with_reducible refine (term_Right.calls a0_8 a0_9 a0_10 a0_11 a0_12 t277 _ A42.out).mono ?_); rintro e w47 ⟨rfl, hb⟩; have n0_ := Aside0.mk (blk_below (by (with_reducible repeat (first | refine blk_drewN ?_ _ | refine blk_drew ?_ | refine blk_alloc ?_ _)); exact BK271.out) hb); have n1_ := Aside0.mk (blk_below (by (with_reducible repeat (first | refine blk_drewN ?_ _ | refine blk_drew ?_ | refine blk_alloc ?_ _)); exact BK272.out) hb); have n2_ := Aside0.mk (below_step (by repeat (first | (with_reducible first | exact HB.out | apply below_alloc | apply pw_below_drewN | apply below_drew1 | refine below_set ?_ GE271.out | refine below_set ?_ GE272.out) | exact HB.out)) hb); clear BK271; clear BK272; clear HB; have BK271 := n0_; have BK272 := n1_; have HB := n2_; clear n0_ n1_ n2_; (try clear hb); (try clear hb2); (try clear hk); (try clear hi)))
          go_meet
          case rel => exact ⟨_, (!t277), (by first | rfl | (simp; done) | (simp [*]; done)), H', ⟨by have := HJ2.out; first | omega | exact Nat.le_refl _⟩, ⟨by (with_reducible repeat (first | refine blk_drewN ?_ _ | refine blk_drew ?_ | refine blk_alloc ?_ _)); exact BK271.out⟩, ⟨by (with_reducible repeat (first | refine blk_drewN ?_ _ | refine blk_drew ?_ | refine blk_alloc ?_ _)); exact BK272.out⟩, ⟨by repeat (first | (with_reducible first | exact HB.out | apply below_alloc | apply pw_below_drewN | apply below_drew1 | refine below_set ?_ GE271.out | refine below_set ?_ GE272.out) | exact HB.out)⟩⟩
         ·replace c41 := Bool.eq_false_iff.mpr c41
          subst c41
          have H1 : (pred_rightAt.j1 kj2 0 0 true a0_0 a0_1 a0_2 a0_3 a0_4 a0_5 a0_6 a0_7 a0_8 a0_9 a0_10 a0_11 a0_12 l0_13 a1) = some r := by rw [if_neg (show ¬ (false = true) by decide)] at H; exact H
          clear H
          have H := H1
          clear H1
          have H' := Aside0.mk H
          clear H
          have hnb48 := NB271_272.out
          have hnc48 := NB272_271.out
          have hcz49 := blk_cell BK271.out
          have hfz49 := blk_frozen BK271.out
          go_wp2_with (first | (go_at_call 101; (with_reducible refine (term_Right.calls a0_3 a0_4 a0_5 a0_6 a0_7 false _ A40.out).mono ?_); rintro e w50 ⟨rfl, hb⟩; have n0_ := Aside0.mk (blk_below (by (with_reducible repeat (first | refine blk_drewN ?_ _ | refine blk_drew ?_ | refine blk_alloc ?_ _)); exact BK271.out) hb); have n1_ := Aside0.mk (blk_below (by (with_reducible repeat (first | refine blk_drewN ?_ _ | refine blk_drew ?_ | refine blk_alloc ?_ _)); exact BK272.out) hb); have n2_ := Aside0.mk (below_step (by repeat (first | (with_reducible first | exact HB.out | apply below_alloc | apply pw_below_drewN | apply below_drew1 | refine below_set ?_ GE271.out | refine below_set ?_ GE272.out) | exact HB.out)) hb); clear BK271; clear BK272; clear HB; have BK271 := n0_; have BK272 := n1_; have HB := n2_; clear n0_ n1_ n2_; (try clear hb); (try clear hb2); (try clear hk); (try clear hi)))
          go_meet
          case rel => exact ⟨_, (true), (by first | rfl | (simp; done) | (simp [*]; done)), H', ⟨by have := HJ2.out; first | omega | exact Nat.le_refl _⟩, ⟨by (with_reducible repeat (first | refine blk_drewN ?_ _ | refine blk_drew ?_ | refine blk_alloc ?_ _)); exact BK271.out⟩, ⟨by (with_reducible repeat (first | refine blk_drewN ?_ _ | refine blk_drew ?_ | refine blk_alloc ?_ _)); exact BK272.out⟩, ⟨by repeat (first | (with_reducible first | exact HB.out | apply below_alloc | apply pw_below_drewN | apply below_drew1 | refine below_set ?_ GE271.out | refine below_set ?_ GE272.out) | exact HB.out)⟩⟩
      case rest =>
       clear HC31
       try clear c1
       try clear c2
       try clear p2
       try clear c3
       try clear c4
       try clear c6
       try clear c6b0
       try clear c7
       try clear c10
       try clear c14
       try clear c15
       try clear c15b0
       try clear c15b1
       try clear c17
       try clear c18
       try clear c18b0
       try clear c18b1
       try clear c19
       try clear c21
       try clear c21b0
       try clear c21b1
       try clear c22
       try clear c25
       try clear c28
       try clear c30
       try clear c30b0
       try clear c30b1
       try clear c32
       try clear c34
       try clear c34b0
       try clear c35
       try clear c37
       try clear c37b0
       try clear c38
       try clear c41
       try clear c43
       try clear c48
       try clear hcz11_0
       try clear hcz12
       try clear hcz20
       try clear hcz23
       try clear hcz26
       try clear hcz29
       try clear hcz33
       try clear hcz36
       try clear hcz39
       try clear hcz44
       try clear hcz46
       try clear hcz49
       try clear hcz8_0
       try clear hfz11_0
       try clear hfz12
       try clear hfz20
       try clear hfz23
       try clear hfz26
       try clear hfz29
       try clear hfz33
       try clear hfz36
       try clear hfz39
       try clear hfz44
       try clear hfz46
       try clear hfz46_13
       try clear hfz46
       try clear hfz49
       try clear hfz8_0
       try clear p2
       obtain ⟨kq, x43_30, rfl, HA, HJ30, BK271, BK272, HB⟩ := hcut
       cases kq with
       | zero => exact absurd HA.out (by simp [pred_rightAt.j1])
       | succ kj30 =>
        have H := HA.out
        clear HA
        simp only [pred_rightAt.j1] at H
        by_cases c51 : x43_30 = true
        ·subst c51
         have H1 : (some false) = some r := by rw [if_pos rfl] at H; exact H
         clear H
         have H := H1
         clear H1
         obtain rfl := Option.some.inj H
         go_wp2
         go_ret
         exact ⟨by first | rfl | (simp [errW_none, errW_some] <;> rfl) | (simp [*, errW_none, errW_some] <;> rfl), by repeat (first | (with_reducible first | exact HB.out | apply below_alloc | apply pw_below_drewN | apply below_drew1 | refine below_set ?_ GE271.out | refine below_set ?_ GE272.out) | exact HB.out)⟩
        ·replace c51 := Bool.eq_false_iff.mpr c51
         subst c51
         have H1 : (if (l0_13.length : Int) < 0 then (some false) else (if (l0_13.length : Int) > 0 then (some false) else ((api_Pred_at_pred_rightAt_1.f kj30 l0_13 a1).bind fun t278 => (some (!t278))))) = some r := by rw [if_neg (show ¬ (false = true) by decide)] at H; exact H
         clear H
         have H := H1
         clear H1
         by_cases c52 : (l0_13.length : Int) < 0
         ·rw [if_pos c52] at H
          have c52b0 : decide ((l0_13.length : Int) < 0) = true := decide_eq_true c52
          have c52b1 : decide (l0_13.length < 0) = true := decide_eq_true (by omega)
          clear c52
          obtain rfl := Option.some.inj H
          have hnb53 := NB271_272.out
          have hnc53 := NB272_271.out
          have hcz54 := blk_cell BK271.out
          have hfz54 := blk_frozen BK271.out
          go_wp2
          go_ret
          exact ⟨by first | rfl | (simp [errW_none, errW_some] <;> rfl) | (simp [*, errW_none, errW_some] <;> rfl), by repeat (first | (with_reducible first | exact HB.out | apply below_alloc | apply pw_below_drewN | apply below_drew1 | refine below_set ?_ GE271.out | refine below_set ?_ GE272.out) | exact HB.out)⟩
         ·rw [if_neg c52] at H
          have c52b0 : decide ((l0_13.length : Int) < 0) = false := decide_eq_false c52
          have c52b1 : decide (l0_13.length < 0) = false := decide_eq_false (by omega)
          clear c52
          by_cases c55 : (l0_13.length : Int) > 0
          ·rw [if_pos c55] at H
           have c55b0 : decide (0 < (l0_13.length : Int)) = true := decide_eq_true c55
           have c55b1 : decide (0 < l0_13.length) = true := decide_eq_true (by omega)
           clear c55
           obtain rfl := Option.some.inj H
           have hnb56 := NB271_272.out
           have hnc56 := NB272_271.out
           have hcz57 := blk_cell BK271.out
           have hfz57 := blk_frozen BK271.out
           go_wp2
           go_ret
           exact ⟨by first | rfl | (simp [errW_none, errW_some] <;> rfl) | (simp [*, errW_none, errW_some] <;> rfl), by repeat (first | (with_reducible first | exact HB.out | apply below_alloc | apply pw_below_drewN | apply below_drew1 | refine below_set ?_ GE271.out | refine below_set ?_ GE272.out) | exact HB.out)⟩
          ·rw [if_neg c55] at H
           have c55b0 : decide (0 < (l0_13.length : Int)) = false := decide_eq_false c55
           have c55b1 : decide (0 < l0_13.length) = false := decide_eq_false (by omega)
           clear c55
           replace H := Option.bind_eq_some_iff.mp H
           obtain ⟨t278, A580, H⟩ := H
           replace H : (some (!t278)) = some r := H
           have A58 := Aside0.mk A580
           clear A580
           obtain rfl := Option.some.inj H
           have hnb59 := NB271_272.out
           have hnc59 := NB272_271.out
           have hcz60 := blk_cell BK271.out
           have hfz60 := blk_frozen BK271.out
           go_wp2_with (first | ((with_reducible refine gate_callee (f := 102) rfl ?_); refine goesL_ (some 70) rfl rfl Try.func102 (by kernel_rfl) rfl #[.slice A0_13 l0_13.length c0_13, .func (.func 103) #[] #[.pointer (some ⟨gb272, 0, none⟩)]] rfl (by (try simp only [List.map_toArray, List.map_cons, List.map_nil]); first | done | rfl | (simp only [List.length_drop, List.length_take]; rfl)) ?_; (with_reducible refine (ihg_api_Pred_at_pred_rightAt_1 kj30 (by have := HJ2.out; have := HJ30.out; omega) _ _ l0_13  gb272 a1 t278 _ ?side1 ?side2 ?side3 A58.out).mono ?_); (case side1 => repeat (first | exact (Kd.C_below HR0_13.out HB.out) | (with_reducible refine Kd.C_alloc ?_ _) | (with_reducible refine Kd.C_drewN ?_ _) | (with_reducible refine Kd.C_drew ?_))); (case side2 => exact HC0_13.out); (case side3 => (with_reducible repeat (first | refine blk_drewN ?_ _ | refine blk_drew ?_ | refine blk_alloc ?_ _)); exact BK272.out); rintro e w61 ⟨rfl, hb⟩; refine ⟨_, rfl, ?_⟩; have n0_ := Aside0.mk (blk_below (by (with_reducible repeat (first | refine blk_drewN ?_ _ | refine blk_drew ?_ | refine blk_alloc ?_ _)); exact BK271.out) hb); have n1_ := Aside0.mk (blk_below (by (with_reducible repeat (first | refine blk_drewN ?_ _ | refine blk_drew ?_ | refine blk_alloc ?_ _)); exact BK272.out) hb); have n2_ := Aside0.mk (below_step (by repeat (first | (with_reducible first | exact HB.out | apply below_alloc | apply pw_below_drewN | apply below_drew1 | refine below_set ?_ GE271.out | refine below_set ?_ GE272.out) | exact HB.out)) hb); clear BK271; clear BK272; clear HB; have BK271 := n0_; have BK272 := n1_; have HB := n2_; clear n0_ n1_ n2_; (try clear hb); (try clear hb2); (try clear hk); (try clear hi)))
           go_ret
           exact ⟨by first | rfl | (simp [errW_none, errW_some] <;> rfl) | (simp [*, errW_none, errW_some] <;> rfl), by repeat (first | (with_reducible first | exact HB.out | apply below_alloc | apply pw_below_drewN | apply below_drew1 | refine below_set ?_ GE271.out | refine below_set ?_ GE272.out) | exact HB.out)⟩
     ·rw [if_neg c30] at H
      have c30b0 : (a0_0 == 2) = false := beq_eq_false_iff_ne.mpr c30
      have c30b1 : (a0_0 != 2) = true := bne_iff_ne.mpr c30
      by_cases c62 : a0_0 = 3
      ·rw [if_pos c62] at H
       have c62b0 : (a0_0 == 3) = true := beq_iff_eq.mpr c62
       have c62b1 : (a0_0 != 3) = false := bne_eq_false_iff_eq.mpr c62
       clear c62
       replace H := Option.bind_eq_some_iff.mp H
       obtain ⟨t279, A630, H⟩ := H
       replace H : (if t279 = true then (if (l0_13.length : Int) < 0 then (some false) else (if (l0_13.length : Int) > 0 then (some false) else ((api_Pred_at_pred_rightAt_1.f kj2 l0_13 a1).bind fun t280 => (some (!t280))))) else (some false)) = some r := H
       have A63 := Aside0.mk A630
       clear A630
       by_cases c64 : t279 = true
       ·subst c64
        have H1 : (if (l0_13.length : Int) < 0 then (some false) else (if (l0_13.length : Int) > 0 then (some false) else ((api_Pred_at_pred_rightAt_1.f kj2 l0_13 a1).bind fun t280 => (some (!t280))))) = some r := by rw [if_pos rfl] at H; exact H
        clear H
        have H := H1
        clear H1
        by_cases c65 : (l0_13.length : Int) < 0
        ·rw [if_pos c65] at H
         have c65b0 : decide ((l0_13.length : Int) < 0) = true := decide_eq_true c65
         have c65b1 : decide (l0_13.length < 0) = true := decide_eq_true (by omega)
         clear c65
         obtain rfl := Option.some.inj H
         have hnb66 := NB271_272.out
         have hnc66 := NB272_271.out
         have hcz67 := blk_cell BK271.out
         have hfz67 := blk_frozen BK271.out
         go_wp2_with (first | ((with_reducible refine gate_callee (f := 101) rfl ?_); refine goesL_ (some 48) rfl rfl Try.func101 (by kernel_rfl) rfl #[.agg #[.int .i64 a0_3, .int .i64 a0_4, .int .i64 a0_5, .bool a0_6, .int .i64 a0_7]] rfl (by (try simp only [List.map_toArray, List.map_cons, List.map_nil]); first | done | rfl | (simp only [List.length_drop, List.length_take]; rfl)) ?_; (with_reducible refine (term_Right.calls a0_3 a0_4 a0_5 a0_6 a0_7 true _ A63.out).mono ?_); rintro e w68 ⟨rfl, hb⟩; refine ⟨_, rfl, ?_⟩; have n0_ := Aside0.mk (blk_below (by (with_reducible repeat (first | refine blk_drewN ?_ _ | refine blk_drew ?_ | refine blk_alloc ?_ _)); exact BK271.out) hb); have n1_ := Aside0.mk (blk_below (by (with_reducible repeat (first | refine blk_drewN ?_ _ | refine blk_drew ?_ | refine blk_alloc ?_ _)); exact BK272.out) hb); have n2_ := Aside0.mk (below_step (by repeat (first | (with_reducible first | exact HB.out | apply below_alloc | apply pw_below_drewN | apply below_drew1 | refine below_set ?_ GE271.out | refine below_set ?_ GE272.out) | exact HB.out)) hb); clear BK271; clear BK272; clear HB; have BK271 := n0_; have BK272 := n1_; have HB := n2_; clear n0_ n1_ n2_; (try clear hb); (try clear hb2); (try clear hk); (try clear hi); have hcz69 := blk_cell BK271.out; have hfz69 := blk_frozen BK271.out; have hfz69_13 := blk_frozen BK271.out 13))
         go_ret
         exact ⟨by first | rfl | (simp [errW_none, errW_some] <;> rfl) | (simp [*, errW_none, errW_some] <;> rfl), by repeat (first | (with_reducible first | exact HB.out | apply below_alloc | apply pw_below_drewN | apply below_drew1 | refine below_set ?_ GE271.out | refine below_set ?_ GE272.out) | exact HB.out)⟩
        ·rw [if_neg c65] at H
         have c65b0 : decide ((l0_13.length : Int) < 0) = false := decide_eq_false c65
         have c65b1 : decide (l0_13.length < 0) = false := decide_eq_false (by omega)
         clear c65
         by_cases c70 : (l0_13.length : Int) > 0
         ·rw [if_pos c70] at H
          have c70b0 : decide (0 < (l0_13.length : Int)) = true := decide_eq_true c70
          have c70b1 : decide (0 < l0_13.length) = true := decide_eq_true (by omega)
          clear c70
          obtain rfl := Option.some.inj H
          have hnb71 := NB271_272.out
          have hnc71 := NB272_271.out
          have hcz72 := blk_cell BK271.out
          have hfz72 := blk_frozen BK271.out
          go_wp2_with (first | ((with_reducible refine gate_callee (f := 101) rfl ?_); refine goesL_ (some 48) rfl rfl Try.func101 (by kernel_rfl) rfl #[.agg #[.int .i64 a0_3, .int .i64 a0_4, .int .i64 a0_5, .bool a0_6, .int .i64 a0_7]] rfl (by (try simp only [List.map_toArray, List.map_cons, List.map_nil]); first | done | rfl | (simp only [List.length_drop, List.length_take]; rfl)) ?_; (with_reducible refine (term_Right.calls a0_3 a0_4 a0_5 a0_6 a0_7 true _ A63.out).mono ?_); rintro e w73 ⟨rfl, hb⟩; refine ⟨_, rfl, ?_⟩; have n0_ := Aside0.mk (blk_below (by (with_reducible repeat (first | refine blk_drewN ?_ _ | refine blk_drew ?_ | refine blk_alloc ?_ _)); exact BK271.out) hb); have n1_ := Aside0.mk (blk_below (by (with_reducible repeat (first | refine blk_drewN ?_ _ | refine blk_drew ?_ | refine blk_alloc ?_ _)); exact BK272.out) hb); have n2_ := Aside0.mk (below_step (by repeat (first | (with_reducible first | exact HB.out | apply below_alloc | apply pw_below_drewN | apply below_drew1 | refine below_set ?_ GE271.out | refine below_set ?_ GE272.out) | exact HB.out)) hb); clear BK271; clear BK272; clear HB; have BK271 := n0_; have BK272 := n1_; have HB := n2_; clear n0_ n1_ n2_; (try clear hb); (try clear hb2); (try clear hk); (try clear hi); have hcz74 := blk_cell BK271.out; have hfz74 := blk_frozen BK271.out; have hfz74_13 := blk_frozen BK271.out 13))
          go_ret
          exact ⟨by first | rfl | (simp [errW_none, errW_some] <;> rfl) | (simp [*, errW_none, errW_some] <;> rfl), by repeat (first | (with_reducible first | exact HB.out | apply below_alloc | apply pw_below_drewN | apply below_drew1 | refine below_set ?_ GE271.out | refine below_set ?_ GE272.out) | exact HB.out)⟩
         ·rw [if_neg c70] at H
          have c70b0 : decide (0 < (l0_13.length : Int)) = false := decide_eq_false c70
          have c70b1 : decide (0 < l0_13.length) = false := decide_eq_false (by omega)
          clear c70
          replace H := Option.bind_eq_some_iff.mp H
          obtain ⟨t280, A750, H⟩ := H
          replace H : (some (!t280)) = some r := H
          have A75 := Aside0.mk A750
          clear A750
          obtain rfl := Option.some.inj H
          have hnb76 := NB271_272.out
          have hnc76 := NB272_271.out
          have hcz77 := blk_cell BK271.out
          have hfz77 := blk_frozen BK271.out
          go_wp2_with (first | ((with_reducible refine gate_callee (f := 101) rfl ?_); refine goesL_ (some 48) rfl rfl Try.func101 (by kernel_rfl) rfl #[.agg #[.int .i64 a0_3, .int .i64 a0_4, .int .i64 a0_5, .bool a0_6, .int .i64 a0_7]] rfl (by (try simp only [List.map_toArray, List.map_cons, List.map_nil]); first | done | rfl | (simp only [List.length_drop, List.length_take]; rfl)) ?_; (with_reducible refine (term_Right.calls a0_3 a0_4 a0_5 a0_6 a0_7 true _ A63.out).mono ?_); rintro e w78 ⟨rfl, hb⟩; refine ⟨_, rfl, ?_⟩; have n0_ := Aside0.mk (blk_below (by (with_reducible repeat (first | refine blk_drewN ?_ _ | refine blk_drew ?_ | refine blk_alloc ?_ _)); exact BK271.out) hb); have n1_ := Aside0.mk (blk_below (by (with_reducible repeat (first | refine blk_drewN ?_ _ | refine blk_drew ?_ | refine blk_alloc ?_ _)); exact BK272.out) hb); have n2_ := Aside0.mk (below_step (by repeat (first | (with_reducible first | exact HB.out | apply below_alloc | apply pw_below_drewN | apply below_drew1 | refine below_set ?_ GE271.out | refine below_set ?_ GE272.out) | exact HB.out)) hb); clear BK271; clear BK272; clear HB; have BK271 := n0_; have BK272 := n1_; have HB := n2_; clear n0_ n1_ n2_; (try clear hb); (try clear hb2); (try clear hk); (try clear hi); have hcz79 := blk_cell BK271.out; have hfz79 := blk_frozen BK271.out; have hfz79_13 := blk_frozen BK271.out 13) | ((with_reducible refine gate_callee (f := 102) rfl ?_); refine goesL_ (some 70) rfl rfl Try.func102 (by kernel_rfl) rfl #[.slice A0_13 l0_13.length c0_13, .func (.func 103) #[] #[.pointer (some ⟨gb272, 0, none⟩)]] rfl (by (try simp only [List.map_toArray, List.map_cons, List.map_nil]); first | done | rfl | (simp only [List.length_drop, List.length_take]; rfl)) ?_; (with_reducible refine (ihg_api_Pred_at_pred_rightAt_1 kj2 (by have := HJ2.out; omega) _ _ l0_13  gb272 a1 t280 _ ?side1 ?side2 ?side3 A75.out).mono ?_); (case side1 => repeat (first | exact (Kd.C_below HR0_13.out HB.out) | (with_reducible refine Kd.C_alloc ?_ _) | (with_reducible refine Kd.C_drewN ?_ _) | (with_reducible refine Kd.C_drew ?_))); (case side2 => exact HC0_13.out); (case side3 => (with_reducible repeat (first | refine blk_drewN ?_ _ | refine blk_drew ?_ | refine blk_alloc ?_ _)); exact BK272.out); rintro e w80 ⟨rfl, hb⟩; refine ⟨_, rfl, ?_⟩; have n0_ := Aside0.mk (blk_below (by (with_reducible repeat (first | refine blk_drewN ?_ _ | refine blk_drew ?_ | refine blk_alloc ?_ _)); exact BK271.out) hb); have n1_ := Aside0.mk (blk_below (by (with_reducible repeat (first | refine blk_drewN ?_ _ | refine blk_drew ?_ | refine blk_alloc ?_ _)); exact BK272.out) hb); have n2_ := Aside0.mk (below_step (by repeat (first | (with_reducible first | exact HB.out | apply below_alloc | apply pw_below_drewN | apply below_drew1 | refine below_set ?_ GE271.out | refine below_set ?_ GE272.out) | exact HB.out)) hb); clear BK271; clear BK272; clear HB; have BK271 := n0_; have BK272 := n1_; have HB := n2_; clear n0_ n1_ n2_; (try clear hb); (try clear hb2); (try clear hk); (try clear hi)))
          go_ret
          exact ⟨by first | rfl | (simp [errW_none, errW_some] <;> rfl) | (simp [*, errW_none, errW_some] <;> rfl), by repeat (first | (with_reducible first | exact HB.out | apply below_alloc | apply pw_below_drewN | apply below_drew1 | refine below_set ?_ GE271.out | refine below_set ?_ GE272.out) | exact HB.out)⟩
       ·replace c64 := Bool.eq_false_iff.mpr c64
        subst c64
        have H1 : (some false) = some r := by rw [if_neg (show ¬ (false = true) by decide)] at H; exact H
        clear H
        have H := H1
        clear H1
        obtain rfl := Option.some.inj H
        have hnb81 := NB271_272.out
        have hnc81 := NB272_271.out
        have hcz82 := blk_cell BK271.out
        have hfz82 := blk_frozen BK271.out
        go_wp2_with (first | ((with_reducible refine gate_callee (f := 101) rfl ?_); refine goesL_ (some 48) rfl rfl Try.func101 (by kernel_rfl) rfl #[.agg #[.int .i64 a0_3, .int .i64 a0_4, .int .i64 a0_5, .bool a0_6, .int .i64 a0_7]] rfl (by (try simp only [List.map_toArray, List.map_cons, List.map_nil]); first | done | rfl | (simp only [List.length_drop, List.length_take]; rfl)) ?_; (with_reducible refine (term_Right.calls a0_3 a0_4 a0_5 a0_6 a0_7 false _ A63.out).mono ?_); rintro e w83 ⟨rfl, hb⟩; refine ⟨_, rfl, ?_⟩; have n0_ := Aside0.mk (blk_below (by (with_reducible repeat (first | refine blk_drewN ?_ _ | refine blk_drew ?_ | refine blk_alloc ?_ _)); exact BK271.out) hb); have n1_ := Aside0.mk (blk_below (by (with_reducible repeat (first | refine blk_drewN ?_ _ | refine blk_drew ?_ | refine blk_alloc ?_ _)); exact BK272.out) hb); have n2_ := Aside0.mk (below_step (by repeat (first | (with_reducible first | exact HB.out | apply below_alloc | apply pw_below_drewN | apply below_drew1 | refine below_set ?_ GE271.out | refine below_set ?_ GE272.out) | exact HB.out)) hb); clear BK271; clear BK272; clear HB; have BK271 := n0_; have BK272 := n1_; have HB := n2_; clear n0_ n1_ n2_; (try clear hb); (try clear hb2); (try clear hk); (try clear hi)))
        go_ret
        exact ⟨by first | rfl | (simp [errW_none, errW_some] <;> rfl) | (simp [*, errW_none, errW_some] <;> rfl), by repeat (first | (with_reducible first | exact HB.out | apply below_alloc | apply pw_below_drewN | apply below_drew1 | refine below_set ?_ GE271.out | refine below_set ?_ GE272.out) | exact HB.out)⟩
      ·rw [if_neg c62] at H
       have c62b0 : (a0_0 == 3) = false := beq_eq_false_iff_ne.mpr c62
       have c62b1 : (a0_0 != 3) = true := bne_iff_ne.mpr c62
       have HC84 := Aside0.mk H
       clear H
       have hnb85 := NB271_272.out
       have hnc85 := NB272_271.out
       have hcz86 := blk_cell BK271.out
       have hfz86 := blk_frozen BK271.out
       go_upto_if 50 with (fail)
       go_cut [50] (fun v50 wc => ∃ (kq : Nat) (x50_83 : Bool), v50 = .bool x50_83 ∧ Aside0 (pred_rightAt.j2 kq 0 a0_0 x50_83 a0_0 a0_1 a0_2 a0_3 a0_4 a0_5 a0_6 a0_7 a0_8 a0_9 a0_10 a0_11 a0_12 l0_13 a1 = some r) ∧ Aside0 (kq ≤ kj2) ∧ Aside0 (wc.heap[gb271]? = some (.cells #[.int .i64 a0_0, .int .i64 a0_1, .int .i64 a0_2, .int .i64 a0_3, .int .i64 a0_4, .int .i64 a0_5, .bool a0_6, .int .i64 a0_7, .int .i64 a0_8, .int .i64 a0_9, .int .i64 a0_10, .bool a0_11, .int .i64 a0_12, (.slice A0_13 l0_13.length c0_13)] 46 (0, 0))) ∧ Aside0 (wc.heap[gb272]? = some (.cells #[.int .i64 a1] 3 (0, 0))) ∧ Aside0 (Below w.heap.size w wc))
       case first =>
        have H := HC84.out
        clear HC84
        by_cases c87 : a0_0 = 4
        ·rw [if_pos c87] at H
         have c87b0 : (a0_0 == 4) = true := beq_iff_eq.mpr c87
         have c87b1 : (a0_0 != 4) = false := bne_eq_false_iff_eq.mpr c87
         clear c87
         (first | rw [c87b0] | (simp only [i64_w, i32_w]; rw [c87b0]) | skip)
         have H' := Aside0.mk H
         clear H
         go_wp2
         go_meet
         case rel => exact ⟨_, ((a0_0 == 4)), (by first | rfl | (simp; done) | (simp [*]; done)), H', ⟨by have := HJ2.out; first | omega | exact Nat.le_refl _⟩, ⟨by (with_reducible repeat (first | refine blk_drewN ?_ _ | refine blk_drew ?_ | refine blk_alloc ?_ _)); exact BK271.out⟩, ⟨by (with_reducible repeat (first | refine blk_drewN ?_ _ | refine blk_drew ?_ | refine blk_alloc ?_ _)); exact BK272.out⟩, ⟨by repeat (first | (with_reducible first | exact HB.out | apply below_alloc | apply pw_below_drewN | apply below_drew1 | refine below_set ?_ GE271.out | refine below_set ?_ GE272.out) | exact HB.out)⟩⟩
        ·rw [if_neg c87] at H
         have c87b0 : (a0_0 == 4) = false := beq_eq_false_iff_ne.mpr c87
         have c87b1 : (a0_0 != 4) = true := bne_iff_ne.mpr c87
         (first | rw [c87b0] | (simp only [i64_w, i32_w]; rw [c87b0]) | skip)
         have H' := Aside0.mk H
         clear H
         go_wp2
         go_meet
         case rel => exact ⟨_, ((a0_0 == 5)), (by first | rfl | (simp; done) | (simp [*]; done)), H', ⟨by have := HJ2.out; first | omega | exact Nat.le_refl _⟩, ⟨by (with_reducible repeat (first | refine blk_drewN ?_ _ | refine blk_drew ?_ | refine blk_alloc ?_ _)); exact BK271.out⟩, ⟨by (with_reducible repeat (first | refine blk_drewN ?_ _ | refine blk_drew ?_ | refine blk_alloc ?_ _)); exact BK272.out⟩, ⟨by repeat (first | (with_reducible first | exact HB.out | apply below_alloc | apply pw_below_drewN | apply below_drew1 | refine below_set ?_ GE271.out | refine below_set ?_ GE272.out) | exact HB.out)⟩⟩
       case rest =>
        clear HC84
        try clear c1
        try clear p2
        try clear c3
        try clear c5
        try clear c6
        try clear c7
        try clear c8
        try clear c10
        try clear c30
        try clear c30b0
        try clear c30b1
        try clear c51
        try clear c52
        try clear c52b0
        try clear c52b1
        try clear c53
        try clear c55
        try clear c55b0
        try clear c55b1
        try clear c56
        try clear c59
        try clear c62
        try clear c62b0
        try clear c62b1
        try clear c64
        try clear c65
        try clear c65b0
        try clear c65b1
        try clear c66
        try clear c70
        try clear c70b0
        try clear c70b1
        try clear c71
        try clear c76
        try clear c81
        try clear c85
        try clear c87
        try clear c87b0
        try clear c87b1
        try clear hcz39
        try clear hcz44
        try clear hcz46
        try clear hcz49
        try clear hcz54
        try clear hcz57
        try clear hcz60
        try clear hcz67
        try clear hcz69
        try clear hcz72
        try clear hcz74
        try clear hcz77
        try clear hcz79
        try clear hcz82
        try clear hcz86
        try clear hcz8_0
        try clear hfz11_0
        try clear hfz12
        try clear hfz20
        try clear hfz23
        try clear hfz26
        try clear hfz29
        try clear hfz33
        try clear hfz36
        try clear hfz39
        try clear hfz44
        try clear hfz46
        try clear hfz46_13
        try clear hfz46
        try clear hfz49
        try clear hfz54
        try clear hfz57
        try clear hfz60
        try clear hfz67
        try clear hfz69
        try clear hfz69_13
        try clear hfz69
        try clear hfz72
        try clear hfz74
        try clear hfz74_13
        try clear hfz74
        try clear hfz77
        try clear hfz79
        try clear hfz79_13
        try clear hfz79
        try clear hfz82
        try clear hfz86
        try clear hfz8_0
        try clear p2
        obtain ⟨kq, x50_83, rfl, HA, HJ83, BK271, BK272, HB⟩ := hcut
        cases kq with
        | zero => exact absurd HA.out (by simp [pred_rightAt.j2])
        | succ kj83 =>
         have H := HA.out
         clear HA
         simp only [pred_rightAt.j2] at H
         by_cases c88 : x50_83 = true
         ·subst c88
          have H1 : (if (l0_13.length : Int) < 0 then (some false) else (if (l0_13.length : Int) > 4 then (some false) else ((api_Pred_at_pred_rightAt_1.f kj83 l0_13 a1).bind fun t281 => (some (!t281))))) = some r := by rw [if_pos rfl] at H; exact H
          clear H
          have H := H1
          clear H1
          by_cases c89 : (l0_13.length : Int) < 0
          ·rw [if_pos c89] at H
           have c89b0 : decide ((l0_13.length : Int) < 0) = true := decide_eq_true c89
           have c89b1 : decide (l0_13.length < 0) = true := decide_eq_true (by omega)
           clear c89
           obtain rfl := Option.some.inj H
           have hnb90 := NB271_272.out
           have hnc90 := NB272_271.out
           have hcz91 := blk_cell BK271.out
           have hfz91 := blk_frozen BK271.out
           go_wp2
           go_ret
           exact ⟨by first | rfl | (simp [errW_none, errW_some] <;> rfl) | (simp [*, errW_none, errW_some] <;> rfl), by repeat (first | (with_reducible first | exact HB.out | apply below_alloc | apply pw_below_drewN | apply below_drew1 | refine below_set ?_ GE271.out | refine below_set ?_ GE272.out) | exact HB.out)⟩
          ·rw [if_neg c89] at H
           have c89b0 : decide ((l0_13.length : Int) < 0) = false := decide_eq_false c89
           have c89b1 : decide (l0_13.length < 0) = false := decide_eq_false (by omega)
           clear c89
           by_cases c92 : (l0_13.length : Int) > 4
           ·rw [if_pos c92] at H
            have c92b0 : decide (4 < (l0_13.length : Int)) = true := decide_eq_true c92
            have c92b1 : decide (4 < l0_13.length) = true := decide_eq_true (by omega)
            clear c92
            obtain rfl := Option.some.inj H
            have hnb93 := NB271_272.out
            have hnc93 := NB272_271.out
            have hcz94 := blk_cell BK271.out
            have hfz94 := blk_frozen BK271.out
            go_wp2
            go_ret
            exact ⟨by first | rfl | (simp [errW_none, errW_some] <;> rfl) | (simp [*, errW_none, errW_some] <;> rfl), by repeat (first | (with_reducible first | exact HB.out | apply below_alloc | apply pw_below_drewN | apply below_drew1 | refine below_set ?_ GE271.out | refine below_set ?_ GE272.out) | exact HB.out)⟩
           ·rw [if_neg c92] at H
            have c92b0 : decide (4 < (l0_13.length : Int)) = false := decide_eq_false c92
            have c92b1 : decide (4 < l0_13.length) = false := decide_eq_false (by omega)
            clear c92
            replace H := Option.bind_eq_some_iff.mp H
            obtain ⟨t281, A950, H⟩ := H
            replace H : (some (!t281)) = some r := H
            have A95 := Aside0.mk A950
            clear A950
            obtain rfl := Option.some.inj H
            have hnb96 := NB271_272.out
            have hnc96 := NB272_271.out
            have hcz97 := blk_cell BK271.out
            have hfz97 := blk_frozen BK271.out
            go_wp2_with (first | ((with_reducible refine gate_callee (f := 102) rfl ?_); refine goesL_ (some 70) rfl rfl Try.func102 (by kernel_rfl) rfl #[.slice A0_13 l0_13.length c0_13, .func (.func 103) #[] #[.pointer (some ⟨gb272, 0, none⟩)]] rfl (by (try simp only [List.map_toArray, List.map_cons, List.map_nil]); first | done | rfl | (simp only [List.length_drop, List.length_take]; rfl)) ?_; (with_reducible refine (ihg_api_Pred_at_pred_rightAt_1 kj83 (by have := HJ2.out; have := HJ83.out; omega) _ _ l0_13  gb272 a1 t281 _ ?side1 ?side2 ?side3 A95.out).mono ?_); (case side1 => repeat (first | exact (Kd.C_below HR0_13.out HB.out) | (with_reducible refine Kd.C_alloc ?_ _) | (with_reducible refine Kd.C_drewN ?_ _) | (with_reducible refine Kd.C_drew ?_))); (case side2 => exact HC0_13.out); (case side3 => (with_reducible repeat (first | refine blk_drewN ?_ _ | refine blk_drew ?_ | refine blk_alloc ?_ _)); exact BK272.out); rintro e w98 ⟨rfl, hb⟩; refine ⟨_, rfl, ?_⟩; have n0_ := Aside0.mk (blk_below (by (with_reducible repeat (first | refine blk_drewN ?_ _ | refine blk_drew ?_ | refine blk_alloc ?_ _)); exact BK271.out) hb); have n1_ := Aside0.mk (blk_below (by (with_reducible repeat (first | refine blk_drewN ?_ _ | refine blk_drew ?_ | refine blk_alloc ?_ _)); exact BK272.out) hb); have n2_ := Aside0.mk (below_step (by repeat (first | (with_reducible first | exact HB.out | apply below_alloc | apply pw_below_drewN | apply below_drew1 | refine below_set ?_ GE271.out | refine below_set ?_ GE272.out) | exact HB.out)) hb); clear BK271; clear BK272; clear HB; have BK271 := n0_; have BK272 := n1_; have HB := n2_; clear n0_ n1_ n2_; (try clear hb); (try clear hb2); (try clear hk); (try clear hi)))
            go_ret
            exact ⟨by first | rfl | (simp [errW_none, errW_some] <;> rfl) | (simp [*, errW_none, errW_some] <;> rfl), by repeat (first | (with_reducible first | exact HB.out | apply below_alloc | apply pw_below_drewN | apply below_drew1 | refine below_set ?_ GE271.out | refine below_set ?_ GE272.out) | exact HB.out)⟩
         ·replace c88 := Bool.eq_false_iff.mpr c88
          subst c88
          have H1 : (if a0_0 = 6 then (if (l0_13.length : Int) < 1 then (some false) else (if (l0_13.length : Int) > 1 then (some false) else ((api_Pred_at_pred_rightAt_1.f kj83 l0_13 a1).bind fun t282 => (some (!t282))))) else (some false)) = some r := by rw [if_neg (show ¬ (false = true) by decide)] at H; exact H
          clear H
          have H := H1
          clear H1
          by_cases c99 : a0_0 = 6
          ·rw [if_pos c99] at H
           have c99b0 : (a0_0 == 6) = true := beq_iff_eq.mpr c99
           have c99b1 : (a0_0 != 6) = false := bne_eq_false_iff_eq.mpr c99
           clear c99
           by_cases c100 : (l0_13.length : Int) < 1
           ·rw [if_pos c100] at H
            have c100b0 : decide ((l0_13.length : Int) < 1) = true := decide_eq_true c100
            have c100b1 : decide (l0_13.length < 1) = true := decide_eq_true (by omega)
            clear c100
            obtain rfl := Option.some.inj H
            have hnb101 := NB271_272.out
            have hnc101 := NB272_271.out
            have hcz102 := blk_cell BK271.out
            have hfz102 := blk_frozen BK271.out
            go_wp2
            go_ret
            exact ⟨by first | rfl | (simp [errW_none, errW_some] <;> rfl) | (simp [*, errW_none, errW_some] <;> rfl), by repeat (first | (with_reducible first | exact HB.out | apply below_alloc | apply pw_below_drewN | apply below_drew1 | refine below_set ?_ GE271.out | refine below_set ?_ GE272.out) | exact HB.out)⟩
           ·rw [if_neg c100] at H
            have c100b0 : decide ((l0_13.length : Int) < 1) = false := decide_eq_false c100
            have c100b1 : decide (l0_13.length < 1) = false := decide_eq_false (by omega)
            clear c100
            by_cases c103 : (l0_13.length : Int) > 1
            ·rw [if_pos c103] at H
             have c103b0 : decide (1 < (l0_13.length : Int)) = true := decide_eq_true c103
             have c103b1 : decide (1 < l0_13.length) = true := decide_eq_true (by omega)
             clear c103
             obtain rfl := Option.some.inj H
             have hnb104 := NB271_272.out
             have hnc104 := NB272_271.out
             have hcz105 := blk_cell BK271.out
             have hfz105 := blk_frozen BK271.out
             go_wp2
             go_ret
             exact ⟨by first | rfl | (simp [errW_none, errW_some] <;> rfl) | (simp [*, errW_none, errW_some] <;> rfl), by repeat (first | (with_reducible first | exact HB.out | apply below_alloc | apply pw_below_drewN | apply below_drew1 | refine below_set ?_ GE271.out | refine below_set ?_ GE272.out) | exact HB.out)⟩
            ·rw [if_neg c103] at H
             have c103b0 : decide (1 < (l0_13.length : Int)) = false := decide_eq_false c103
             have c103b1 : decide (1 < l0_13.length) = false := decide_eq_false (by omega)
             clear c103
             replace H := Option.bind_eq_some_iff.mp H
             obtain ⟨t282, A1060, H⟩ := H
             replace H : (some (!t282)) = some r := H
             have A106 := Aside0.mk A1060
             clear A1060
             obtain rfl := Option.some.inj H
             have hnb107 := NB271_272.out
             have hnc107 := NB272_271.out
             have hcz108 := blk_cell BK271.out
             have hfz108 := blk_frozen BK271.out
             go_wp2_with (first | ((with_reducible refine gate_callee (f := 102) rfl ?_); refine goesL_ (some 70) rfl rfl Try.func102 (by kernel_rfl) rfl #[.slice A0_13 l0_13.length c0_13, .func (.func 103) #[] #[.pointer (some ⟨gb272, 0, none⟩)]] rfl (by (try simp only [List.map_toArray, List.map_cons, List.map_nil]); first | done | rfl | (simp only [List.length_drop, List.length_take]; rfl)) ?_; (with_reducible refine (ihg_api_Pred_at_pred_rightAt_1 kj83 (by have := HJ2.out; have := HJ83.out; omega) _ _ l0_13  gb272 a1 t282 _ ?side1 ?side2 ?side3 A106.out).mono ?_); (case side1 => repeat (first | exact (Kd.C_below HR0_13.out HB.out) | (with_reducible refine Kd.C_alloc ?_ _) | (with_reducible refine Kd.C_drewN ?_ _) | (with_reducible refine Kd.C_drew ?_))); (case side2 => exact HC0_13.out); (case side3 => (with_reducible repeat (first | refine blk_drewN ?_ _ | refine blk_drew ?_ | refine blk_alloc ?_ _)); exact BK272.out); rintro e w109 ⟨rfl, hb⟩; refine ⟨_, rfl, ?_⟩; have n0_ := Aside0.mk (blk_below (by (with_reducible repeat (first | refine blk_drewN ?_ _ | refine blk_drew ?_ | refine blk_alloc ?_ _)); exact BK271.out) hb); have n1_ := Aside0.mk (blk_below (by (with_reducible repeat (first | refine blk_drewN ?_ _ | refine blk_drew ?_ | refine blk_alloc ?_ _)); exact BK272.out) hb); have n2_ := Aside0.mk (below_step (by repeat (first | (with_reducible first | exact HB.out | apply below_alloc | apply pw_below_drewN | apply below_drew1 | refine below_set ?_ GE271.out | refine below_set ?_ GE272.out) | exact HB.out)) hb); clear BK271; clear BK272; clear HB; have BK271 := n0_; have BK272 := n1_; have HB := n2_; clear n0_ n1_ n2_; (try clear hb); (try clear hb2); (try clear hk); (try clear hi)))
             go_ret
             exact ⟨by first | rfl | (simp [errW_none, errW_some] <;> rfl) | (simp [*, errW_none, errW_some] <;> rfl), by repeat (first | (with_reducible first | exact HB.out | apply below_alloc | apply pw_below_drewN | apply below_drew1 | refine below_set ?_ GE271.out | refine below_set ?_ GE272.out) | exact HB.out)⟩
          ·rw [if_neg c99] at H
           have c99b0 : (a0_0 == 6) = false := beq_eq_false_iff_ne.mpr c99
           have c99b1 : (a0_0 != 6) = true := bne_iff_ne.mpr c99
           obtain rfl := Option.some.inj H
           go_wp2
           go_ret
           exact ⟨by first | rfl | (simp [errW_none, errW_some] <;> rfl) | (simp [*, errW_none, errW_some] <;> rfl), by repeat (first | (with_reducible first | exact HB.out | apply below_alloc | apply pw_below_drewN | apply below_drew1 | refine below_set ?_ GE271.out | refine below_set ?_ GE272.out) | exact HB.out)⟩
/-! ### api_Pred_at_pred_rightAt_1: function 102 -/
set_option maxHeartbeats 8000000 in
set_option maxRecDepth 100000 in
theorem api_Pred_at_pred_rightAt_1.calls_of (k : Nat) (ih : ∀ j_, j_ < k → api_Pred_at_pred_rightAt_1.Says j_) (ihg_pred_rightAt_1 : ∀ j_, j_ < k → pred_rightAt_1.Says j_) (ihg_pred_rightAt : ∀ j_, j_ < k → pred_rightAt.Says j_) (ihg_api_Pred_at_pred_rightAt_1_2 : ∀ j_, j_ < k → api_Pred_at_pred_rightAt_1_2.Says j_) : api_Pred_at_pred_rightAt_1.Says k := by
 unfold api_Pred_at_pred_rightAt_1.Says
 intro A0 c0 l0 g2 a2_0 r w hr0 hc0 hb2 h
 cases k with
 | zero => exact absurd h (by simp [api_Pred_at_pred_rightAt_1.f])
 | succ k =>
 simp only [api_Pred_at_pred_rightAt_1.f] at h
 have HR0 := Aside0.mk hr0
 have HC0 := Aside0.mk hc0
 clear hr0 hc0
 have BK2 := Aside0.mk hb2
 clear hb2
 have HB := Aside0.mk (Below.refl w.heap.size w)
 have H : ((api_Pred_at_pred_rightAt_1_2.f k l0 a2_0).bind fun t283 => (some (decide (t283 ≥ 0)))) = some r := h
 clear h
 replace H := Option.bind_eq_some_iff.mp H
 obtain ⟨t283, A40, H⟩ := H
 replace H : (some (decide (t283 ≥ 0))) = some r := H
 have A4 := Aside0.mk A40
 clear A40
 obtain rfl := Option.some.inj H
 go_enter Try.func102, Try.ntmps102
 go_wp2_with (first | ((with_reducible refine gate_callee (f := 109) rfl ?_); refine goesL_ (some 7) rfl rfl Try.func109 (by kernel_rfl) rfl #[.slice A0 l0.length c0, .func (.func 103) #[] #[.pointer (some ⟨g2, 0, none⟩)]] rfl (by (try simp only [List.map_toArray, List.map_cons, List.map_nil]); first | done | rfl | (simp only [List.length_drop, List.length_take]; rfl)) ?_; (with_reducible refine (ihg_api_Pred_at_pred_rightAt_1_2 k (by omega) _ _ l0  g2 a2_0 t283 _ ?side1 ?side2 ?side3 A4.out).mono ?_); (case side1 => repeat (first | exact HR0.out | (with_reducible refine Kd.C_alloc ?_ _) | (with_reducible refine Kd.C_drewN ?_ _) | (with_reducible refine Kd.C_drew ?_))); (case side2 => exact HC0.out); (case side3 => (with_reducible repeat (first | refine blk_drewN ?_ _ | refine blk_drew ?_ | refine blk_alloc ?_ _)); exact BK2.out); rintro e w5 ⟨rfl, hb⟩; refine ⟨_, rfl, ?_⟩; have n0_ := Aside0.mk (blk_below (by (with_reducible repeat (first | refine blk_drewN ?_ _ | refine blk_drew ?_ | refine blk_alloc ?_ _)); exact BK2.out) hb); have n1_ := Aside0.mk (below_step (by repeat (first | (with_reducible first | exact HB.out | apply below_alloc | apply pw_below_drewN | apply below_drew1 | refine below_set ?_ GE2.out) | exact HB.out)) hb); clear BK2; clear HB; have BK2 := n0_; have HB := n1_; clear n0_ n1_; (try clear hb); (try clear hb2); (try clear hk); (try clear hi)))
 go_ret
 exact ⟨by first | rfl | (simp [errW_none, errW_some] <;> rfl) | (simp [*, errW_none, errW_some] <;> rfl), by repeat (first | (with_reducible first | exact HB.out | apply below_alloc | apply pw_below_drewN | apply below_drew1 | refine below_set ?_ GE2.out) | exact HB.out)⟩
/-! ### api_Pred_at_pred_rightAt_1_2: function 109 -/
set_option maxHeartbeats 8000000 in
set_option maxRecDepth 100000 in
theorem api_Pred_at_pred_rightAt_1_2.calls_of (k : Nat) (ih : ∀ j_, j_ < k → api_Pred_at_pred_rightAt_1_2.Says j_) (ihg_pred_rightAt_1 : ∀ j_, j_ < k → pred_rightAt_1.Says j_) (ihg_pred_rightAt : ∀ j_, j_ < k → pred_rightAt.Says j_) (ihg_api_Pred_at_pred_rightAt_1 : ∀ j_, j_ < k → api_Pred_at_pred_rightAt_1.Says j_) : api_Pred_at_pred_rightAt_1_2.Says k := by
 unfold api_Pred_at_pred_rightAt_1_2.Says
 intro A0 c0 l0 g2 a2_0 r w hr0 hc0 hb2 h
 cases k with
 | zero => exact absurd h (by simp [api_Pred_at_pred_rightAt_1_2.f])
 | succ k =>
 simp only [api_Pred_at_pred_rightAt_1_2.f] at h
 have hu46 := Try.underlying46
 have HR0 := Aside0.mk hr0
 have HC0 := Aside0.mk hc0
 clear hr0 hc0
 have BK2 := Aside0.mk hb2
 clear hb2
 have HB := Aside0.mk (Below.refl w.heap.size w)
 have H : (api_Pred_at_pred_rightAt_1_2.l0 k l0 (l0.length : Int) 0 a2_0) = some r := h
 clear h
 have H' := Aside0.mk H
 clear H
 go_enter Try.func109, Try.ntmps109
 go_wp2
 go_loopg [8] k (fun kq v8 w' => ∃ (x8_1 : Int), v8 = .int .i64 x8_1 ∧ Aside0 (api_Pred_at_pred_rightAt_1_2.l0 kq l0 (l0.length : Int) x8_1 a2_0 = some r) ∧ Aside0 (kq ≤ k) ∧ Aside0 (w'.heap[g2]? = some (.cells #[.int .i64 a2_0] 3 (0, 0))) ∧ Aside0 (Below w.heap.size w w'))
 case atStart => exact ⟨(0), (by first | rfl | (simp; done) | (simp [*]; done)), H', ⟨Nat.le_refl _⟩, ⟨by (with_reducible repeat (first | refine blk_drewN ?_ _ | refine blk_drew ?_ | refine blk_alloc ?_ _)); exact BK2.out⟩, ⟨by repeat (first | (with_reducible first | exact HB.out | apply below_alloc | apply pw_below_drewN | apply below_drew1 | refine below_set ?_ GE2.out) | exact HB.out)⟩⟩
 case round =>
  clear H'
  try clear c1
  try clear p2
  obtain ⟨x8_1, rfl, HA, HK1, BK2, HB⟩ := hrel
  cases gk with
  | zero => exact absurd HA.out (by simp [api_Pred_at_pred_rightAt_1_2.l0])
  | succ k1 =>
   have H := HA.out
   clear HA
   simp only [api_Pred_at_pred_rightAt_1_2.l0] at H
   by_cases c4 : x8_1 < (l0.length : Int)
   ·rw [if_pos c4] at H
    have c4b0 : decide (x8_1 < (l0.length : Int)) = true := decide_eq_true c4
    clear c4
    by_cases c5 : 0 ≤ x8_1
    ·rw [if_pos c5] at H
     have c5b0 : decide (0 ≤ x8_1) = true := decide_eq_true c5
     clear c5
     by_cases c6 : x8_1 < (l0.length : Int)
     ·rw [if_pos c6] at H
      have c6b0 : decide (x8_1 < (l0.length : Int)) = true := decide_eq_true c6
      clear c6
      replace H := Option.bind_eq_some_iff.mp H
      obtain ⟨t285, A70, H⟩ := H
      replace H : (if t285 = true then (some x8_1) else (api_Pred_at_pred_rightAt_1_2.l0 k1 l0 (l0.length : Int) (wrap64 (x8_1 + 1)) a2_0)) = some r := H
      have A7 := Aside0.mk A70
      clear A70
      by_cases c8 : t285 = true
      ·subst c8
       have H1 : (some x8_1) = some r := by rw [if_pos rfl] at H; exact H
       clear H
       have H := H1
       clear H1
       obtain rfl := Option.some.inj H
       have p284 : 0 ≤ (x8_1 : Int) := of_decide_eq_true (by first | (with_reducible assumption) | assumption)
       have q284 : x8_1 < (l0.length : Int) := of_decide_eq_true (by first | (with_reducible assumption) | assumption)
       obtain ⟨ad284, A284_13, c284_13, e284, hx284_0, hx284_1, hx284_2, hx284_3, hx284_4, hx284_5, hx284_6, hx284_7, hx284_8, hx284_9, hx284_10, hx284_11, hx284_12, hx284_13, hl284_13, hi284_13⟩ := at_T46 HR0.out x8_1 p284 q284
       cases e284
       replace hx284_0 := (HB.out.cell (World.block_lt_of_cell? w _ hx284_0)).trans hx284_0
       replace hx284_1 := (HB.out.cell (World.block_lt_of_cell? w _ hx284_1)).trans hx284_1
       replace hx284_2 := (HB.out.cell (World.block_lt_of_cell? w _ hx284_2)).trans hx284_2
       replace hx284_3 := (HB.out.cell (World.block_lt_of_cell? w _ hx284_3)).trans hx284_3
       replace hx284_4 := (HB.out.cell (World.block_lt_of_cell? w _ hx284_4)).trans hx284_4
       replace hx284_5 := (HB.out.cell (World.block_lt_of_cell? w _ hx284_5)).trans hx284_5
       replace hx284_6 := (HB.out.cell (World.block_lt_of_cell? w _ hx284_6)).trans hx284_6
       replace hx284_7 := (HB.out.cell (World.block_lt_of_cell? w _ hx284_7)).trans hx284_7
       replace hx284_8 := (HB.out.cell (World.block_lt_of_cell? w _ hx284_8)).trans hx284_8
       replace hx284_9 := (HB.out.cell (World.block_lt_of_cell? w _ hx284_9)).trans hx284_9
       replace hx284_10 := (HB.out.cell (World.block_lt_of_cell? w _ hx284_10)).trans hx284_10
       replace hx284_11 := (HB.out.cell (World.block_lt_of_cell? w _ hx284_11)).trans hx284_11
       replace hx284_12 := (HB.out.cell (World.block_lt_of_cell? w _ hx284_12)).trans hx284_12
       replace hx284_13 := (HB.out.cell (World.block_lt_of_cell? w _ hx284_13)).trans hx284_13
       have HR284_13 := Aside0.mk hi284_13
       have HC284_13 := Aside0.mk hl284_13
       clear hi284_13 hl284_13
       replace p284 := eq_true p284
       replace q284 := eq_true q284
       go_wp2_with (first | ((with_reducible refine gate_calleev (t := 11) rfl ?_); refine goesV_ (caps := #[.pointer (some ⟨g2, 0, none⟩)]) (some 16) rfl rfl Try.func103 (by kernel_rfl) rfl #[.agg #[.int .i64 ((rd_T46 l0 x8_1).f0), .int .i64 ((rd_T46 l0 x8_1).f1), .int .i64 ((rd_T46 l0 x8_1).f2), .int .i64 ((rd_T46 l0 x8_1).f3.f0), .int .i64 ((rd_T46 l0 x8_1).f3.f1), .int .i64 ((rd_T46 l0 x8_1).f3.f2), .bool ((rd_T46 l0 x8_1).f3.f3.f0), .int .i64 ((rd_T46 l0 x8_1).f3.f3.f1), .int .i64 ((rd_T46 l0 x8_1).f4.f0), .int .i64 ((rd_T46 l0 x8_1).f4.f1), .int .i64 ((rd_T46 l0 x8_1).f4.f2), .bool ((rd_T46 l0 x8_1).f4.f3.f0), .int .i64 ((rd_T46 l0 x8_1).f4.f3.f1), .slice A284_13 ((rd_T46 l0 x8_1).f5).length c284_13], .pointer (some ⟨g2, 0, none⟩)] rfl rfl (by (try simp only [List.map_toArray, List.map_cons, List.map_nil]); first | done | rfl | (simp only [List.length_drop, List.length_take]; rfl)) ?_; (with_reducible refine (ihg_pred_rightAt_1 k1 (by have := HK1.out; omega) ((rd_T46 l0 x8_1).f0) ((rd_T46 l0 x8_1).f1) ((rd_T46 l0 x8_1).f2) ((rd_T46 l0 x8_1).f3.f0) ((rd_T46 l0 x8_1).f3.f1) ((rd_T46 l0 x8_1).f3.f2) ((rd_T46 l0 x8_1).f3.f3.f0) ((rd_T46 l0 x8_1).f3.f3.f1) ((rd_T46 l0 x8_1).f4.f0) ((rd_T46 l0 x8_1).f4.f1) ((rd_T46 l0 x8_1).f4.f2) ((rd_T46 l0 x8_1).f4.f3.f0) ((rd_T46 l0 x8_1).f4.f3.f1) _ _ ((rd_T46 l0 x8_1).f5) g2 a2_0 true _ ?side1 ?side2 ?side3 A7.out).mono ?_); (case side1 => repeat (first | exact (Kd.C_below HR284_13.out HB.out) | (with_reducible refine Kd.C_alloc ?_ _) | (with_reducible refine Kd.C_drewN ?_ _) | (with_reducible refine Kd.C_drew ?_))); (case side2 => exact HC284_13.out); (case side3 => (with_reducible repeat (first | refine blk_drewN ?_ _ | refine blk_drew ?_ | refine blk_alloc ?_ _)); exact BK2.out); rintro e w9 ⟨rfl, hb⟩; refine ⟨_, rfl, ?_⟩; have n0_ := Aside0.mk (blk_below (by (with_reducible repeat (first | refine blk_drewN ?_ _ | refine blk_drew ?_ | refine blk_alloc ?_ _)); exact BK2.out) hb); have n1_ := Aside0.mk (below_step (by repeat (first | (with_reducible first | exact HB.out | apply below_alloc | apply pw_below_drewN | apply below_drew1 | refine below_set ?_ GE2.out) | exact HB.out)) hb); clear BK2; clear HB; have BK2 := n0_; have HB := n1_; clear n0_ n1_; (try clear hb); (try clear hb2); (try clear hk); (try clear hi)))
       go_ret
       exact ⟨by first | rfl | (simp [errW_none, errW_some] <;> rfl) | (simp [*, errW_none, errW_some] <;> rfl), by repeat (first | (with_reducible first | exact HB.out | apply below_alloc | apply pw_below_drewN | apply below_drew1 | refine below_set ?_ GE2.out) | exact HB.out)⟩
      ·replace c8 := Bool.eq_false_iff.mpr c8
       subst c8
       have H1 : (api_Pred_at_pred_rightAt_1_2.l0 k1 l0 (l0.length : Int) (wrap64 (x8_1 + 1)) a2_0) = some r := by rw [if_neg (show ¬ (false = true) by decide)] at H; exact H
       clear H
       have H := H1
       clear H1
       have H' := Aside0.mk H
       clear H
       have p284 : 0 ≤ (x8_1 : Int) := of_decide_eq_true (by first | (with_reducible assumption) | assumption)
       have q284 : x8_1 < (l0.length : Int) := of_decide_eq_true (by first | (with_reducible assumption) | assumption)
       obtain ⟨ad284, A284_13, c284_13, e284, hx284_0, hx284_1, hx284_2, hx284_3, hx284_4, hx284_5, hx284_6, hx284_7, hx284_8, hx284_9, hx284_10, hx284_11, hx284_12, hx284_13, hl284_13, hi284_13⟩ := at_T46 HR0.out x8_1 p284 q284
       cases e284
       replace hx284_0 := (HB.out.cell (World.block_lt_of_cell? w _ hx284_0)).trans hx284_0
       replace hx284_1 := (HB.out.cell (World.block_lt_of_cell? w _ hx284_1)).trans hx284_1
       replace hx284_2 := (HB.out.cell (World.block_lt_of_cell? w _ hx284_2)).trans hx284_2
       replace hx284_3 := (HB.out.cell (World.block_lt_of_cell? w _ hx284_3)).trans hx284_3
       replace hx284_4 := (HB.out.cell (World.block_lt_of_cell? w _ hx284_4)).trans hx284_4
       replace hx284_5 := (HB.out.cell (World.block_lt_of_cell? w _ hx284_5)).trans hx284_5
       replace hx284_6 := (HB.out.cell (World.block_lt_of_cell? w _ hx284_6)).trans hx284_6
       replace hx284_7 := (HB.out.cell (World.block_lt_of_cell? w _ hx284_7)).trans hx284_7
       replace hx284_8 := (HB.out.cell (World.block_lt_of_cell? w _ hx284_8)).trans hx284_8
       replace hx284_9 := (HB.out.cell (World.block_lt_of_cell? w _ hx284_9)).trans hx284_9
       replace hx284_10 := (HB.out.cell (World.block_lt_of_cell? w _ hx284_10)).trans hx284_10
       replace hx284_11 := (HB.out.cell (World.block_lt_of_cell? w _ hx284_11)).trans hx284_11
       replace hx284_12 := (HB.out.cell (World.block_lt_of_cell? w _ hx284_12)).trans hx284_12
       replace hx284_13 := (HB.out.cell (World.block_lt_of_cell? w _ hx284_13)).trans hx284_13
       have HR284_13 := Aside0.mk hi284_13
       have HC284_13 := Aside0.mk hl284_13
       clear hi284_13 hl284_13
       replace p284 := eq_true p284
       replace q284 := eq_true q284
       go_wp2_with (first | ((with_reducible refine gate_calleev (t := 11) rfl ?_); refine goesV_ (caps := #[.pointer (some ⟨g2, 0, none⟩)]) (some 16) rfl rfl Try.func103 (by kernel_rfl) rfl #[.agg #[.int .i64 ((rd_T46 l0 x8_1).f0), .int .i64 ((rd_T46 l0 x8_1).f1), .int .i64 ((rd_T46 l0 x8_1).f2), .int .i64 ((rd_T46 l0 x8_1).f3.f0), .int .i64 ((rd_T46 l0 x8_1).f3.f1), .int .i64 ((rd_T46 l0 x8_1).f3.f2), .bool ((rd_T46 l0 x8_1).f3.f3.f0), .int .i64 ((rd_T46 l0 x8_1).f3.f3.f1), .int .i64 ((rd_T46 l0 x8_1).f4.f0), .int .i64 ((rd_T46 l0 x8_1).f4.f1), .int .i64 ((rd_T46 l0 x8_1).f4.f2), .bool ((rd_T46 l0 x8_1).f4.f3.f0), .int .i64 ((rd_T46 l0 x8_1).f4.f3.f1), .slice A284_13 ((rd_T46 l0 x8_1).f5).length c284_13], .pointer (some ⟨g2, 0, none⟩)] rfl rfl (by (try simp only [List.map_toArray, List.map_cons, List.map_nil]); first | done | rfl | (simp only [List.length_drop, List.length_take]; rfl)) ?_; (with_reducible refine (ihg_pred_rightAt_1 k1 (by have := HK1.out; omega) ((rd_T46 l0 x8_1).f0) ((rd_T46 l0 x8_1).f1) ((rd_T46 l0 x8_1).f2) ((rd_T46 l0 x8_1).f3.f0) ((rd_T46 l0 x8_1).f3.f1) ((rd_T46 l0 x8_1).f3.f2) ((rd_T46 l0 x8_1).f3.f3.f0) ((rd_T46 l0 x8_1).f3.f3.f1) ((rd_T46 l0 x8_1).f4.f0) ((rd_T46 l0 x8_1).f4.f1) ((rd_T46 l0 x8_1).f4.f2) ((rd_T46 l0 x8_1).f4.f3.f0) ((rd_T46 l0 x8_1).f4.f3.f1) _ _ ((rd_T46 l0 x8_1).f5) g2 a2_0 false _ ?side1 ?side2 ?side3 A7.out).mono ?_); (case side1 => repeat (first | exact (Kd.C_below HR284_13.out HB.out) | (with_reducible refine Kd.C_alloc ?_ _) | (with_reducible refine Kd.C_drewN ?_ _) | (with_reducible refine Kd.C_drew ?_))); (case side2 => exact HC284_13.out); (case side3 => (with_reducible repeat (first | refine blk_drewN ?_ _ | refine blk_drew ?_ | refine blk_alloc ?_ _)); exact BK2.out); rintro e w10 ⟨rfl, hb⟩; refine ⟨_, rfl, ?_⟩; have n0_ := Aside0.mk (blk_below (by (with_reducible repeat (first | refine blk_drewN ?_ _ | refine blk_drew ?_ | refine blk_alloc ?_ _)); exact BK2.out) hb); have n1_ := Aside0.mk (below_step (by repeat (first | (with_reducible first | exact HB.out | apply below_alloc | apply pw_below_drewN | apply below_drew1 | refine below_set ?_ GE2.out) | exact HB.out)) hb); clear BK2; clear HB; have BK2 := n0_; have HB := n1_; clear n0_ n1_; (try clear hb); (try clear hb2); (try clear hk); (try clear hi)))
       go_roundg k1
       case measure => have := HK1.out; omega
       case rel => exact ⟨(wrap64 (x8_1 + 1)), (by first | rfl | (simp; done) | (simp [*]; done)), H', ⟨by have := HK1.out; omega⟩, ⟨by (with_reducible repeat (first | refine blk_drewN ?_ _ | refine blk_drew ?_ | refine blk_alloc ?_ _)); exact BK2.out⟩, ⟨by repeat (first | (with_reducible first | exact HB.out | apply below_alloc | apply pw_below_drewN | apply below_drew1 | refine below_set ?_ GE2.out) | exact HB.out)⟩⟩
     ·rw [if_neg c6] at H
      exact absurd H (by simp)
    ·rw [if_neg c5] at H
     exact absurd H (by simp)
   ·rw [if_neg c4] at H
    have c4b0 : decide (x8_1 < (l0.length : Int)) = false := decide_eq_false c4
    clear c4
    obtain rfl := Option.some.inj H
    go_wp2
    go_ret
    exact ⟨by first | rfl | (simp [errW_none, errW_some] <;> rfl) | (simp [*, errW_none, errW_some] <;> rfl), by repeat (first | (with_reducible first | exact HB.out | apply below_alloc | apply pw_below_drewN | apply below_drew1 | refine below_set ?_ GE2.out) | exact HB.out)⟩
theorem pred_rightAt_1.calls_g : ∀ k, pred_rightAt_1.Says k ∧ pred_rightAt.Says k ∧ api_Pred_at_pred_rightAt_1.Says k ∧ api_Pred_at_pred_rightAt_1_2.Says k := by
 intro k
 induction k using Nat.strongRecOn with
 | _ k ih =>
 exact ⟨pred_rightAt_1.calls_of k (fun j_ hj_ => (ih j_ hj_).1) (fun j_ hj_ => (ih j_ hj_).2.1) (fun j_ hj_ => (ih j_ hj_).2.2.1) (fun j_ hj_ => (ih j_ hj_).2.2.2), pred_rightAt.calls_of k (fun j_ hj_ => (ih j_ hj_).2.1) (fun j_ hj_ => (ih j_ hj_).1) (fun j_ hj_ => (ih j_ hj_).2.2.1) (fun j_ hj_ => (ih j_ hj_).2.2.2), api_Pred_at_pred_rightAt_1.calls_of k (fun j_ hj_ => (ih j_ hj_).2.2.1) (fun j_ hj_ => (ih j_ hj_).1) (fun j_ hj_ => (ih j_ hj_).2.1) (fun j_ hj_ => (ih j_ hj_).2.2.2), api_Pred_at_pred_rightAt_1_2.calls_of k (fun j_ hj_ => (ih j_ hj_).2.2.2) (fun j_ hj_ => (ih j_ hj_).1) (fun j_ hj_ => (ih j_ hj_).2.1) (fun j_ hj_ => (ih j_ hj_).2.2.1)⟩
theorem pred_rightAt_1.calls (k : Nat) : ∀ (a0_0 : Int) (a0_1 : Int) (a0_2 : Int) (a0_3 : Int) (a0_4 : Int) (a0_5 : Int) (a0_6 : Bool) (a0_7 : Int) (a0_8 : Int) (a0_9 : Int) (a0_10 : Int) (a0_11 : Bool) (a0_12 : Int) (A0_13 : Option Addr) (c0_13 : Nat) (l0_13 : List (S46)) (g1 : Nat) (a1_0 : Int) (r : Bool) (w : World) (hr0_13 : Kd.C k46 w A0_13 l0_13.length l0_13) (hc0_13 : l0_13.length ≤ c0_13) (hb1 : w.heap[g1]? = some (.cells #[.int .i64 a1_0] 3 (0, 0))) (h : pred_rightAt_1.f k a0_0 a0_1 a0_2 a0_3 a0_4 a0_5 a0_6 a0_7 a0_8 a0_9 a0_10 a0_11 a0_12 l0_13 a1_0 = some r),
  Calls Try.prog 103 #[.agg #[.int .i64 a0_0, .int .i64 a0_1, .int .i64 a0_2, .int .i64 a0_3, .int .i64 a0_4, .int .i64 a0_5, .bool a0_6, .int .i64 a0_7, .int .i64 a0_8, .int .i64 a0_9, .int .i64 a0_10, .bool a0_11, .int .i64 a0_12, .slice A0_13 l0_13.length c0_13], .pointer (some ⟨g1, 0, none⟩)] w fun e w' => e = .returned (.bool r) ∧ Below w.heap.size w w' := (pred_rightAt_1.calls_g k).1
theorem pred_rightAt.calls (k : Nat) : ∀ (a0_0 : Int) (a0_1 : Int) (a0_2 : Int) (a0_3 : Int) (a0_4 : Int) (a0_5 : Int) (a0_6 : Bool) (a0_7 : Int) (a0_8 : Int) (a0_9 : Int) (a0_10 : Int) (a0_11 : Bool) (a0_12 : Int) (A0_13 : Option Addr) (c0_13 : Nat) (l0_13 : List (S46)) (a1 : Int) (r : Bool) (w : World) (hr0_13 : Kd.C k46 w A0_13 l0_13.length l0_13) (hc0_13 : l0_13.length ≤ c0_13) (h : pred_rightAt.f k a0_0 a0_1 a0_2 a0_3 a0_4 a0_5 a0_6 a0_7 a0_8 a0_9 a0_10 a0_11 a0_12 l0_13 a1 = some r),
  Calls Try.prog 74 #[.agg #[.int .i64 a0_0, .int .i64 a0_1, .int .i64 a0_2, .int .i64 a0_3, .int .i64 a0_4, .int .i64 a0_5, .bool a0_6, .int .i64 a0_7, .int .i64 a0_8, .int .i64 a0_9, .int .i64 a0_10, .bool a0_11, .int .i64 a0_12, .slice A0_13 l0_13.length c0_13], .int .i64 a1] w fun e w' => e = .returned (.bool r) ∧ Below w.heap.size w w' := (pred_rightAt_1.calls_g k).2.1
theorem api_Pred_at_pred_rightAt_1.calls (k : Nat) : ∀ (A0 : Option Addr) (c0 : Nat) (l0 : List (S46))  (g2 : Nat) (a2_0 : Int) (r : Bool) (w : World) (hr0 : Kd.C k46 w A0 l0.length l0) (hc0 : l0.length ≤ c0) (hb2 : w.heap[g2]? = some (.cells #[.int .i64 a2_0] 3 (0, 0))) (h : api_Pred_at_pred_rightAt_1.f k l0 a2_0 = some r),
  Calls Try.prog 102 #[.slice A0 l0.length c0, .func (.func 103) #[] #[.pointer (some ⟨g2, 0, none⟩)]] w fun e w' => e = .returned (.bool r) ∧ Below w.heap.size w w' := (pred_rightAt_1.calls_g k).2.2.1
theorem api_Pred_at_pred_rightAt_1_2.calls (k : Nat) : ∀ (A0 : Option Addr) (c0 : Nat) (l0 : List (S46))  (g2 : Nat) (a2_0 : Int) (r : Int) (w : World) (hr0 : Kd.C k46 w A0 l0.length l0) (hc0 : l0.length ≤ c0) (hb2 : w.heap[g2]? = some (.cells #[.int .i64 a2_0] 3 (0, 0))) (h : api_Pred_at_pred_rightAt_1_2.f k l0 a2_0 = some r),
  Calls Try.prog 109 #[.slice A0 l0.length c0, .func (.func 103) #[] #[.pointer (some ⟨g2, 0, none⟩)]] w fun e w' => e = .returned (.int .i64 r) ∧ Below w.heap.size w w' := (pred_rightAt_1.calls_g k).2.2.2

end Go.Proofs.Ytigkkfhpnfjmhaa.PPredU
