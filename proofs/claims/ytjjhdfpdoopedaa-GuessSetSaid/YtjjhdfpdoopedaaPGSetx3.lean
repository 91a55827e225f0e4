/- Laid by a program of this session over the printer of the kit: contracts of functions of the given program, and rows of laws. Lean checks it. -/
import Derived.Test.YtjjhdfpdoopedaaPGSetx0
import Derived.Test.YtjjhdfpdoopedaaPGSetx1
import Derived.Test.YtjjhdfpdoopedaaPGSetx2
namespace Go.Proofs.Ytjjhdfpdoopedaa.PGSet
open Go.RowKit Go.Proofs.YtjjhdfpdoopedaaW.PrintWords Go.Proofs.YtjjhdfpdoopedaaW.PrintLast Go.Proofs.YtjjhdfpdoopedaaW.PrintMore
attribute [local go_sem] max2_int min2_int max_two min_two max_three min_three max_four min_four   -- for this text's walks alone
set_option linter.unusedVariables false
set_option linter.unusedSimpArgs false

/-! ### watersmeetlaw27_GuessSet: function 9 -/
mutual
def watersmeetlaw27_GuessSet.j0 : Nat → List (S57) → Bool → List Int → List Int → List Int → List Int → Option (Bool)
 | 0, _, _, _, _, _, _ => none
 | k + 1, x0, x20, x152000, x152001, x153000, x153001 => if x20 = true then ((watersmeetlaw27_awake.f k).bind fun t155 => (some t155)) else ((some (([] : List Int) : List Int)).bind fun y156 => (if y156.length + x152000.length < 17592186044416 then ((some (([] : List Int) : List Int)).bind fun y162 => (if y162.length + x152001.length < 17592186044416 then (watersmeetlaw27_GuessSet.l0 k x0 (IntKind.u64.wrap ((IntKind.u64.wrap ((IntKind.u64.wrap ((x153000.length : Int))) * 5)) + (IntKind.u64.wrap ((x153001.length : Int))))) 0 x152000 x152001 x153000 x153001 (y156 ++ x152000) (y162 ++ x152001)) else (none))) else (none)))
def watersmeetlaw27_GuessSet.l0 : Nat → List (S57) → Int → Int → List Int → List Int → List Int → List Int → List Int → List Int → Option (Bool)
 | 0, _, _, _, _, _, _, _, _, _ => none
 | k + 1, x0, x7, x9, x152000, x152001, x153000, x153001, x169000, x169001 => if x9 < (x169000.length : Int) then (watersmeetlaw27_GuessSet.j2 k x0 x7 x9 (decide (x9 < (x153000.length : Int))) x152000 x152001 x153000 x153001 x169000 x169001) else (watersmeetlaw27_GuessSet.j2 k x0 x7 x9 false x152000 x152001 x153000 x153001 x169000 x169001)
def watersmeetlaw27_GuessSet.j2 : Nat → List (S57) → Int → Int → Bool → List Int → List Int → List Int → List Int → List Int → List Int → Option (Bool)
 | 0, _, _, _, _, _, _, _, _, _, _ => none
 | k + 1, x0, x7, x9, x52, x152000, x152001, x153000, x153001, x169000, x169001 => if x52 = true then ((watersmeetref01_Has.f k x7 x9).bind fun t169 => (if t169 = true then (watersmeetlaw27_GuessSet.l0 k x0 x7 (wrap64 (x9 + 1)) x152000 x152001 x153000 x153001 x169000 x169001) else (if 0 ≤ x9 then (if x9 < (x153000.length : Int) then (if x9 < (x169000.length : Int) then (watersmeetlaw27_GuessSet.l0 k x0 x7 (wrap64 (x9 + 1)) x152000 x152001 x153000 x153001 (x169000.set (x9 : Int).toNat (rd x153000 x9)) x169001) else (none)) else (none)) else (none)))) else (watersmeetlaw27_GuessSet.l1 k x0 x7 0 x152000 x152001 x153000 x153001 x169000 x169001)
def watersmeetlaw27_GuessSet.l1 : Nat → List (S57) → Int → Int → List Int → List Int → List Int → List Int → List Int → List Int → Option (Bool)
 | 0, _, _, _, _, _, _, _, _, _ => none
 | k + 1, x0, x7, x10, x152000, x152001, x153000, x153001, x169000, x169001 => if x10 < (x169001.length : Int) then (if x10 < (x153001.length : Int) then (watersmeetlaw27_GuessSet.j4 k x0 x7 x10 (decide (x10 < (x0.length : Int))) x152000 x152001 x153000 x153001 x169000 x169001) else (watersmeetlaw27_GuessSet.j4 k x0 x7 x10 false x152000 x152001 x153000 x153001 x169000 x169001)) else (watersmeetlaw27_GuessSet.j4 k x0 x7 x10 false x152000 x152001 x153000 x153001 x169000 x169001)
def watersmeetlaw27_GuessSet.j4 : Nat → List (S57) → Int → Int → Bool → List Int → List Int → List Int → List Int → List Int → List Int → Option (Bool)
 | 0, _, _, _, _, _, _, _, _, _, _ => none
 | k + 1, x0, x7, x10, x85, x152000, x152001, x153000, x153001, x169000, x169001 => if x85 = true then (if 0 ≤ x10 then (if x10 < (x0.length : Int) then ((watersmeetref01_In.f k ((rd_T57 x0 x10).f2) x7).bind fun t173 => (if t173 = true then (watersmeetlaw27_GuessSet.l1 k x0 x7 (wrap64 (x10 + 1)) x152000 x152001 x153000 x153001 x169000 x169001) else (if x10 < (x153001.length : Int) then (if x10 < (x169001.length : Int) then (watersmeetlaw27_GuessSet.l1 k x0 x7 (wrap64 (x10 + 1)) x152000 x152001 x153000 x153001 x169000 (x169001.set (x10 : Int).toNat (rd x153001 x10))) else (none)) else (none)))) else (none)) else (none)) else ((guess_Rows.f k x0 x152000 x152001 x7).bind fun t176 => ((guess_Rows.f k x0 x169000 x169001 x7).bind fun t177 => (if t176 = t177 then ((watersmeetlaw27_awake.f k).bind fun t178 => (some t178)) else (some false))))
end
def watersmeetlaw27_GuessSet.f (k : Nat) (l0 : List (S57)) (l1_0 : List Int) (l1_1 : List Int) (l2_0 : List Int) (l2_1 : List Int) : Option (Bool) := (watersmeetlaw27_few.f l0 l1_0 l1_1).bind fun t153 => (if t153 = true then ((watersmeetlaw27_few.f l0 l2_0 l2_1).bind fun t154 => (watersmeetlaw27_GuessSet.j0 k l0 (!t154) l1_0 l1_1 l2_0 l2_1)) else (watersmeetlaw27_GuessSet.j0 k l0 true l1_0 l1_1 l2_0 l2_1))
theorem watersmeetlaw27_GuessSet.mono_l : ∀ k, (∀ y0 y1 y2 y3 y4 y5, LeO (watersmeetlaw27_GuessSet.j0 k y0 y1 y2 y3 y4 y5) (watersmeetlaw27_GuessSet.j0 (k + 1) y0 y1 y2 y3 y4 y5)) ∧ (∀ y0 y1 y2 y3 y4 y5 y6 y7 y8, LeO (watersmeetlaw27_GuessSet.l0 k y0 y1 y2 y3 y4 y5 y6 y7 y8) (watersmeetlaw27_GuessSet.l0 (k + 1) y0 y1 y2 y3 y4 y5 y6 y7 y8)) ∧ (∀ y0 y1 y2 y3 y4 y5 y6 y7 y8 y9, LeO (watersmeetlaw27_GuessSet.j2 k y0 y1 y2 y3 y4 y5 y6 y7 y8 y9) (watersmeetlaw27_GuessSet.j2 (k + 1) y0 y1 y2 y3 y4 y5 y6 y7 y8 y9)) ∧ (∀ y0 y1 y2 y3 y4 y5 y6 y7 y8, LeO (watersmeetlaw27_GuessSet.l1 k y0 y1 y2 y3 y4 y5 y6 y7 y8) (watersmeetlaw27_GuessSet.l1 (k + 1) y0 y1 y2 y3 y4 y5 y6 y7 y8)) ∧ (∀ y0 y1 y2 y3 y4 y5 y6 y7 y8 y9, LeO (watersmeetlaw27_GuessSet.j4 k y0 y1 y2 y3 y4 y5 y6 y7 y8 y9) (watersmeetlaw27_GuessSet.j4 (k + 1) y0 y1 y2 y3 y4 y5 y6 y7 y8 y9))
 | 0 => ⟨fun _ _ _ _ _ _ r h => by simp [watersmeetlaw27_GuessSet.j0] at h, fun _ _ _ _ _ _ _ _ _ r h => by simp [watersmeetlaw27_GuessSet.l0] at h, fun _ _ _ _ _ _ _ _ _ _ r h => by simp [watersmeetlaw27_GuessSet.j2] at h, fun _ _ _ _ _ _ _ _ _ r h => by simp [watersmeetlaw27_GuessSet.l1] at h, fun _ _ _ _ _ _ _ _ _ _ r h => by simp [watersmeetlaw27_GuessSet.j4] at h⟩
 | k + 1 => by
  obtain ⟨ih0, ih1, ih2, ih3, ih4⟩ := watersmeetlaw27_GuessSet.mono_l k
  refine ⟨?_, ?_, ?_, ?_, ?_⟩
  ·intro y0 y1 y2 y3 y4 y5
   unfold watersmeetlaw27_GuessSet.j0
   repeat' first
   | (with_reducible exact ih0 _ _ _ _ _ _)
   | (with_reducible exact ih1 _ _ _ _ _ _ _ _ _)
   | (with_reducible exact ih2 _ _ _ _ _ _ _ _ _ _)
   | (with_reducible exact ih3 _ _ _ _ _ _ _ _ _)
   | (with_reducible exact ih4 _ _ _ _ _ _ _ _ _ _)
   | (with_reducible exact guess_Rows.mono _ _ _ _ _)
   | (with_reducible exact watersmeetlaw27_awake.mono _)
   | (with_reducible exact watersmeetref01_Has.mono _ _ _)
   | (with_reducible exact watersmeetref01_In.mono _ _ _)
   | (with_reducible exact LeO.refl _)
   | (with_reducible exact LeO.none _)
   | (with_reducible refine LeO.ite ?_ ?_)
   | (with_reducible refine LeO.bind ?_ (fun _ => ?_))
   | exact ih0 _ _ _ _ _ _
   | exact ih1 _ _ _ _ _ _ _ _ _
   | exact ih2 _ _ _ _ _ _ _ _ _ _
   | exact ih3 _ _ _ _ _ _ _ _ _
   | exact ih4 _ _ _ _ _ _ _ _ _ _
   | exact guess_Rows.mono _ _ _ _ _
   | exact watersmeetlaw27_awake.mono _
   | exact watersmeetref01_Has.mono _ _ _
   | exact watersmeetref01_In.mono _ _ _
   | exact LeO.none _
   | refine LeO.ite ?_ ?_
   | refine LeO.bind ?_ (fun _ => ?_)
  ·intro y0 y1 y2 y3 y4 y5 y6 y7 y8
   unfold watersmeetlaw27_GuessSet.l0
   repeat' first
   | (with_reducible exact ih0 _ _ _ _ _ _)
   | (with_reducible exact ih1 _ _ _ _ _ _ _ _ _)
   | (with_reducible exact ih2 _ _ _ _ _ _ _ _ _ _)
   | (with_reducible exact ih3 _ _ _ _ _ _ _ _ _)
   | (with_reducible exact ih4 _ _ _ _ _ _ _ _ _ _)
   | (with_reducible exact guess_Rows.mono _ _ _ _ _)
   | (with_reducible exact watersmeetlaw27_awake.mono _)
   | (with_reducible exact watersmeetref01_Has.mono _ _ _)
   | (with_reducible exact watersmeetref01_In.mono _ _ _)
   | (with_reducible exact LeO.refl _)
   | (with_reducible exact LeO.none _)
   | (with_reducible refine LeO.ite ?_ ?_)
   | (with_reducible refine LeO.bind ?_ (fun _ => ?_))
   | exact ih0 _ _ _ _ _ _
   | exact ih1 _ _ _ _ _ _ _ _ _
   | exact ih2 _ _ _ _ _ _ _ _ _ _
   | exact ih3 _ _ _ _ _ _ _ _ _
   | exact ih4 _ _ _ _ _ _ _ _ _ _
   | exact guess_Rows.mono _ _ _ _ _
   | exact watersmeetlaw27_awake.mono _
   | exact watersmeetref01_Has.mono _ _ _
   | exact watersmeetref01_In.mono _ _ _
   | exact LeO.none _
   | refine LeO.ite ?_ ?_
   | refine LeO.bind ?_ (fun _ => ?_)
  ·intro y0 y1 y2 y3 y4 y5 y6 y7 y8 y9
   unfold watersmeetlaw27_GuessSet.j2
   repeat' first
   | (with_reducible exact ih0 _ _ _ _ _ _)
   | (with_reducible exact ih1 _ _ _ _ _ _ _ _ _)
   | (with_reducible exact ih2 _ _ _ _ _ _ _ _ _ _)
   | (with_reducible exact ih3 _ _ _ _ _ _ _ _ _)
   | (with_reducible exact ih4 _ _ _ _ _ _ _ _ _ _)
   | (with_reducible exact guess_Rows.mono _ _ _ _ _)
   | (with_reducible exact watersmeetlaw27_awake.mono _)
   | (with_reducible exact watersmeetref01_Has.mono _ _ _)
   | (with_reducible exact watersmeetref01_In.mono _ _ _)
   | (with_reducible exact LeO.refl _)
   | (with_reducible exact LeO.none _)
   | (with_reducible refine LeO.ite ?_ ?_)
   | (with_reducible refine LeO.bind ?_ (fun _ => ?_))
   | exact ih0 _ _ _ _ _ _
   | exact ih1 _ _ _ _ _ _ _ _ _
   | exact ih2 _ _ _ _ _ _ _ _ _ _
   | exact ih3 _ _ _ _ _ _ _ _ _
   | exact ih4 _ _ _ _ _ _ _ _ _ _
   | exact guess_Rows.mono _ _ _ _ _
   | exact watersmeetlaw27_awake.mono _
   | exact watersmeetref01_Has.mono _ _ _
   | exact watersmeetref01_In.mono _ _ _
   | exact LeO.none _
   | refine LeO.ite ?_ ?_
   | refine LeO.bind ?_ (fun _ => ?_)
  ·intro y0 y1 y2 y3 y4 y5 y6 y7 y8
   unfold watersmeetlaw27_GuessSet.l1
   repeat' first
   | (with_reducible exact ih0 _ _ _ _ _ _)
   | (with_reducible exact ih1 _ _ _ _ _ _ _ _ _)
   | (with_reducible exact ih2 _ _ _ _ _ _ _ _ _ _)
   | (with_reducible exact ih3 _ _ _ _ _ _ _ _ _)
   | (with_reducible exact ih4 _ _ _ _ _ _ _ _ _ _)
   | (with_reducible exact guess_Rows.mono _ _ _ _ _)
   | (with_reducible exact watersmeetlaw27_awake.mono _)
   | (with_reducible exact watersmeetref01_Has.mono _ _ _)
   | (with_reducible exact watersmeetref01_In.mono _ _ _)
   | (with_reducible exact LeO.refl _)
   | (with_reducible exact LeO.none _)
   | (with_reducible refine LeO.ite ?_ ?_)
   | (with_reducible refine LeO.bind ?_ (fun _ => ?_))
   | exact ih0 _ _ _ _ _ _
   | exact ih1 _ _ _ _ _ _ _ _ _
   | exact ih2 _ _ _ _ _ _ _ _ _ _
   | exact ih3 _ _ _ _ _ _ _ _ _
   | exact ih4 _ _ _ _ _ _ _ _ _ _
   | exact guess_Rows.mono _ _ _ _ _
   | exact watersmeetlaw27_awake.mono _
   | exact watersmeetref01_Has.mono _ _ _
   | exact watersmeetref01_In.mono _ _ _
   | exact LeO.none _
   | refine LeO.ite ?_ ?_
   | refine LeO.bind ?_ (fun _ => ?_)
  ·intro y0 y1 y2 y3 y4 y5 y6 y7 y8 y9
   unfold watersmeetlaw27_GuessSet.j4
   repeat' first
   | (with_reducible exact ih0 _ _ _ _ _ _)
   | (with_reducible exact ih1 _ _ _ _ _ _ _ _ _)
   | (with_reducible exact ih2 _ _ _ _ _ _ _ _ _ _)
   | (with_reducible exact ih3 _ _ _ _ _ _ _ _ _)
   | (with_reducible exact ih4 _ _ _ _ _ _ _ _ _ _)
   | (with_reducible exact guess_Rows.mono _ _ _ _ _)
   | (with_reducible exact watersmeetlaw27_awake.mono _)
   | (with_reducible exact watersmeetref01_Has.mono _ _ _)
   | (with_reducible exact watersmeetref01_In.mono _ _ _)
   | (with_reducible exact LeO.refl _)
   | (with_reducible exact LeO.none _)
   | (with_reducible refine LeO.ite ?_ ?_)
   | (with_reducible refine LeO.bind ?_ (fun _ => ?_))
   | exact ih0 _ _ _ _ _ _
   | exact ih1 _ _ _ _ _ _ _ _ _
   | exact ih2 _ _ _ _ _ _ _ _ _ _
   | exact ih3 _ _ _ _ _ _ _ _ _
   | exact ih4 _ _ _ _ _ _ _ _ _ _
   | exact guess_Rows.mono _ _ _ _ _
   | exact watersmeetlaw27_awake.mono _
   | exact watersmeetref01_Has.mono _ _ _
   | exact watersmeetref01_In.mono _ _ _
   | exact LeO.none _
   | refine LeO.ite ?_ ?_
   | refine LeO.bind ?_ (fun _ => ?_)
theorem watersmeetlaw27_GuessSet.mono : ∀ a0 a1 a2 a3 a4 k, LeO (watersmeetlaw27_GuessSet.f k a0 a1 a2 a3 a4) (watersmeetlaw27_GuessSet.f (k + 1) a0 a1 a2 a3 a4) := by
 intro a0 a1 a2 a3 a4 k
 obtain ⟨ih0, ih1, ih2, ih3, ih4⟩ := watersmeetlaw27_GuessSet.mono_l k
 unfold watersmeetlaw27_GuessSet.f
 repeat' first
   | (with_reducible exact ih0 _ _ _ _ _ _)
   | (with_reducible exact ih1 _ _ _ _ _ _ _ _ _)
   | (with_reducible exact ih2 _ _ _ _ _ _ _ _ _ _)
   | (with_reducible exact ih3 _ _ _ _ _ _ _ _ _)
   | (with_reducible exact ih4 _ _ _ _ _ _ _ _ _ _)
   | (with_reducible exact guess_Rows.mono _ _ _ _ _)
   | (with_reducible exact watersmeetlaw27_awake.mono _)
   | (with_reducible exact watersmeetref01_Has.mono _ _ _)
   | (with_reducible exact watersmeetref01_In.mono _ _ _)
   | (with_reducible exact LeO.refl _)
   | (with_reducible exact LeO.none _)
   | (with_reducible refine LeO.ite ?_ ?_)
   | (with_reducible refine LeO.bind ?_ (fun _ => ?_))
   | exact ih0 _ _ _ _ _ _
   | exact ih1 _ _ _ _ _ _ _ _ _
   | exact ih2 _ _ _ _ _ _ _ _ _ _
   | exact ih3 _ _ _ _ _ _ _ _ _
   | exact ih4 _ _ _ _ _ _ _ _ _ _
   | exact guess_Rows.mono _ _ _ _ _
   | exact watersmeetlaw27_awake.mono _
   | exact watersmeetref01_Has.mono _ _ _
   | exact watersmeetref01_In.mono _ _ _
   | exact LeO.none _
   | refine LeO.ite ?_ ?_
   | refine LeO.bind ?_ (fun _ => ?_)
def watersmeetlaw27_GuessSet.T4 : Bool × List (List Nat × List Nat) := (true, [([], []), ([], []), ([1], [1]), ([0, 2], [0, 2]), ([], []), ([], []), ([5], [5]), ([4, 6, 3], [4, 6]), ([3, 7], [3, 7]), ([], []), ([9, 8, 7, 0, 1, 2, 3, 4, 5, 6, 7, 8, 9], [8, 9])])
def watersmeetlaw27_GuessSet.B4 : List Nat := [0, 0, 2, 7, 0, 0, 32, 127, 255, 0, 1023]
theorem watersmeetlaw27_GuessSet.tab4 : rtab .any (opsOf Try.f9 4) = watersmeetlaw27_GuessSet.T4 := by kernel_rfl
theorem watersmeetlaw27_GuessSet.bits4 : waitsOk watersmeetlaw27_GuessSet.T4.2 watersmeetlaw27_GuessSet.B4 = true := by kernel_rfl
def watersmeetlaw27_GuessSet.T9 : Bool × List (List Nat × List Nat) := (true, [([], []), ([0], [0]), ([], []), ([], []), ([3], [3]), ([], []), ([4, 5], [4, 5]), ([6], [6]), ([1, 2, 0, 1, 2, 3, 4, 5, 6, 7], [1, 2]), ([8, 7, 0, 1, 2, 3, 4, 5, 6, 7], [7, 8])])
def watersmeetlaw27_GuessSet.B9 : List Nat := [0, 1, 0, 0, 8, 0, 56, 120, 255, 511]
theorem watersmeetlaw27_GuessSet.tab9 : rtab .any (opsOf Try.f9 9) = watersmeetlaw27_GuessSet.T9 := by kernel_rfl
theorem watersmeetlaw27_GuessSet.bits9 : waitsOk watersmeetlaw27_GuessSet.T9.2 watersmeetlaw27_GuessSet.B9 = true := by kernel_rfl
def watersmeetlaw27_GuessSet.T14 : Bool × List (List Nat × List Nat) := (true, [([], []), ([0], [0]), ([], []), ([], []), ([3], [3]), ([], []), ([4, 5], [4, 5]), ([6], [6]), ([1, 2, 0, 1, 2, 3, 4, 5, 6, 7], [1, 2]), ([8, 7, 0, 1, 2, 3, 4, 5, 6, 7], [7, 8])])
def watersmeetlaw27_GuessSet.B14 : List Nat := [0, 1, 0, 0, 8, 0, 56, 120, 255, 511]
theorem watersmeetlaw27_GuessSet.tab14 : rtab .any (opsOf Try.f9 14) = watersmeetlaw27_GuessSet.T14 := by kernel_rfl
theorem watersmeetlaw27_GuessSet.bits14 : waitsOk watersmeetlaw27_GuessSet.T14.2 watersmeetlaw27_GuessSet.B14 = true := by kernel_rfl
def watersmeetlaw27_GuessSet.T15 : Bool × List (List Nat × List Nat) := (true, [([], []), ([], []), ([], []), ([0, 1, 2], [0, 1, 2]), ([], []), ([], []), ([], []), ([4, 5, 6, 3], [4, 5, 6]), ([3, 7], [3, 7]), ([8, 7], [8]), ([9, 9], [9]), ([9, 10], [9, 10]), ([11, 10, 0, 1, 2, 3, 4, 5, 6, 7, 8, 9, 10, 11], [11])])
def watersmeetlaw27_GuessSet.B15 : List Nat := [0, 0, 0, 7, 0, 0, 0, 127, 255, 511, 1023, 2047, 4095]
theorem watersmeetlaw27_GuessSet.tab15 : rtab .any (opsOf Try.f9 15) = watersmeetlaw27_GuessSet.T15 := by kernel_rfl
theorem watersmeetlaw27_GuessSet.bits15 : waitsOk watersmeetlaw27_GuessSet.T15.2 watersmeetlaw27_GuessSet.B15 = true := by kernel_rfl

end Go.Proofs.Ytjjhdfpdoopedaa.PGSet
