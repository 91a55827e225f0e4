/- Laid by a program of this session over the printer of the kit: contracts of functions of the given program, and rows of laws. Lean checks it. -/
import Derived.Test.YtigkkfhpnfjmhaaPPredUx0
import Derived.Test.YtigkkfhpnfjmhaaPPredUx3
import Derived.Test.YtigkkfhpnfjmhaaPPredUx4
import Derived.Test.YtigkkfhpnfjmhaaPPredUx6
import Derived.Test.YtigkkfhpnfjmhaaPPredUx7
namespace Go.Proofs.Ytigkkfhpnfjmhaa.PPredU
open Go.RowKit Go.Proofs.YtigkkfhpnfjmhaaW.PrintWords Go.Proofs.YtigkkfhpnfjmhaaW.PrintLast Go.Proofs.YtigkkfhpnfjmhaaW.PrintMore
attribute [local go_sem] max2_int min2_int max_two min_two max_three min_three max_four min_four   -- for this text's walks alone
set_option linter.unusedVariables false
set_option linter.unusedSimpArgs false

/-! ### watersmeetlaw06_awake: function 34 -/
def watersmeetlaw06_awake.f (k : Nat)  : Option (Bool) := (watersmeetlaw06_Equal.f 0 1).bind fun bt361 => ((pred_Of.f k 2 0 1 1 0 0 false 0 1 1 0 false 0 ([] : List (S46)) (([(([(⟨false, 5⟩ : S42)] : List (S42))), (([(⟨true, 0⟩ : S42)] : List (S42)))] : List (List (S42))))).bind fun t385 => (if t385 = 1 then ((pred_Of.f k 2 0 1 1 0 0 false 0 1 1 0 false 0 ([] : List (S46)) (([(([(⟨false, 5⟩ : S42)] : List (S42))), (([(⟨false, 5⟩ : S42)] : List (S42)))] : List (List (S42))))).bind fun t395 => (if t395 = 2 then ((pred_Right.f k 2 0 1 1 0 0 false 0 1 1 0 false 0 ([] : List (S46))).bind fun t396 => (if t396 = true then ((pred_Tables.f k 2 0 1 1 0 0 false 0 1 1 0 false 0 ([] : List (S46))).bind fun t397 => (if t397 = 3 then ((pred_Columns.f k 2 0 1 1 0 0 false 0 1 1 0 false 0 ([] : List (S46))).bind fun t398 => (if (t398.length : Int) = 2 then ((pred_Copy.f k 2 0 1 1 0 0 false 0 1 1 0 false 0 ([] : List (S46))).bind fun bt401 => ((pred_Same.f k 2 0 1 1 0 0 false 0 1 1 0 false 0 ([] : List (S46)) bt401.1 bt401.2.1 bt401.2.2.1 bt401.2.2.2.1 bt401.2.2.2.2.1 bt401.2.2.2.2.2.1 bt401.2.2.2.2.2.2.1 bt401.2.2.2.2.2.2.2.1 bt401.2.2.2.2.2.2.2.2.1 bt401.2.2.2.2.2.2.2.2.2.1 bt401.2.2.2.2.2.2.2.2.2.2.1 bt401.2.2.2.2.2.2.2.2.2.2.2.1 bt401.2.2.2.2.2.2.2.2.2.2.2.2.1 bt401.2.2.2.2.2.2.2.2.2.2.2.2.2).bind fun t417 => (if t417 = true then ((pred_All.f k ([] : List (S46)) ([] : List (List (S42)))).bind fun t418 => (some (t418 == 2))) else (none)))) else (none))) else (none))) else (none))) else (none))) else (none)))
theorem watersmeetlaw06_awake.mono : ∀ k, LeO (watersmeetlaw06_awake.f k ) (watersmeetlaw06_awake.f (k + 1) ) := by
 intro  k
 unfold watersmeetlaw06_awake.f
 repeat' first
   | (with_reducible exact pred_All.mono _ _ _)
   | (with_reducible exact pred_Columns.mono _ _ _ _ _ _ _ _ _ _ _ _ _ _ _)
   | (with_reducible exact pred_Copy.mono _ _ _ _ _ _ _ _ _ _ _ _ _ _ _)
   | (with_reducible exact pred_Of.mono _ _ _ _ _ _ _ _ _ _ _ _ _ _ _ _)
   | (with_reducible exact pred_Right.mono _ _ _ _ _ _ _ _ _ _ _ _ _ _ _)
   | (with_reducible exact pred_Same.mono _ _ _ _ _ _ _ _ _ _ _ _ _ _ _ _ _ _ _ _ _ _ _ _ _ _ _ _ _)
   | (with_reducible exact pred_Tables.mono _ _ _ _ _ _ _ _ _ _ _ _ _ _ _)
   | (with_reducible exact LeO.refl _)
   | (with_reducible exact LeO.none _)
   | (with_reducible refine LeO.ite ?_ ?_)
   | (with_reducible refine LeO.bind ?_ (fun _ => ?_))
   | exact pred_All.mono _ _ _
   | exact pred_Columns.mono _ _ _ _ _ _ _ _ _ _ _ _ _ _ _
   | exact pred_Copy.mono _ _ _ _ _ _ _ _ _ _ _ _ _ _ _
   | exact pred_Of.mono _ _ _ _ _ _ _ _ _ _ _ _ _ _ _ _
   | exact pred_Right.mono _ _ _ _ _ _ _ _ _ _ _ _ _ _ _
   | exact pred_Same.mono _ _ _ _ _ _ _ _ _ _ _ _ _ _ _ _ _ _ _ _ _ _ _ _ _ _ _ _ _
   | exact pred_Tables.mono _ _ _ _ _ _ _ _ _ _ _ _ _ _ _
   | exact LeO.none _
   | refine LeO.ite ?_ ?_
   | refine LeO.bind ?_ (fun _ => ?_)
def watersmeetlaw06_awake.T2 : Bool × List (List Nat × List Nat) := (true, [([], []), ([], []), ([1], [1]), ([], []), ([3], [3]), ([2, 4], [2, 4]), ([0, 5], [0, 5]), ([6], [6]), ([7, 6], [7]), ([8], [8]), ([8], [8]), ([10, 8], [8, 10]), ([8], [8]), ([12, 8], [8, 12]), ([11, 13, 8], [8, 11, 13]), ([9, 14, 8, 8], [8, 9, 14]), ([15, 8], [8, 15]), ([8, 16], [8, 16]), ([17, 15], [17]), ([18], [18]), ([19, 18, 18], [18, 19]), ([18, 20], [18, 20]), ([21, 20], [21]), ([22], [22]), ([23, 22, 22], [22, 23]), ([24, 22], [22, 24]), ([22, 25], [22, 25]), ([26, 24], [26]), ([27], [27]), ([28, 27, 27], [27, 28]), ([29, 27], [27, 29]), ([30, 27], [27, 30]), ([27, 31], [27, 31]), ([32, 29], [32]), ([33], [33]), ([33], [33]), ([35, 33, 33], [33, 35]), ([34, 36, 36, 33], [33, 34, 36]), ([33, 37], [33, 37]), ([38, 37], [38]), ([39, 39], [39]), ([40, 39], [39, 40]), ([39, 41], [39, 41]), ([42, 40, 0, 1, 2, 3, 4, 5, 6, 7, 8, 9, 10, 11, 12, 13, 14, 15, 16, 17, 18, 19, 20, 21, 22, 23, 24, 25, 26, 27, 28, 29, 30, 31, 32, 33, 34, 35, 36, 37, 38, 39, 40, 41, 42], [42])])
def watersmeetlaw06_awake.B2 : List Nat := [0, 0, 2, 0, 8, 30, 63, 127, 255, 511, 511, 1535, 511, 4607, 15871, 32767, 65535, 131071, 262143, 524287, 1048575, 2097151, 4194303, 8388607, 16777215, 33554431, 67108863, 134217727, 268435455, 536870911, 1073741823, 2147483647, 4294967295, 8589934591, 17179869183, 17179869183, 51539607551, 137438953471, 274877906943, 549755813887, 1099511627775, 2199023255551, 4398046511103, 8796093022207]
theorem watersmeetlaw06_awake.tab2 : rtab .any (opsOf Try.f34 2) = watersmeetlaw06_awake.T2 := by kernel_rfl
theorem watersmeetlaw06_awake.bits2 : waitsOk watersmeetlaw06_awake.T2.2 watersmeetlaw06_awake.B2 = true := by kernel_rfl
set_option maxHeartbeats 8000000 in
set_option maxRecDepth 100000 in
theorem watersmeetlaw06_awake.calls (k : Nat)  (r : Bool) (w : World) (h : watersmeetlaw06_awake.f k  = some r) :
  Calls Try.prog 34 #[] w fun e w' => e = .returned (.bool r) ∧ Below w.heap.size w w' := by
 have hu46 := Try.underlying46
 have hu42 := Try.underlying42
 have HB := Aside0.mk (Below.refl w.heap.size w)
 have H : ((watersmeetlaw06_Equal.f 0 1).bind fun bt361 => ((pred_Of.f k 2 0 1 1 0 0 false 0 1 1 0 false 0 ([] : List (S46)) (([(([(⟨false, 5⟩ : S42)] : List (S42))), (([(⟨true, 0⟩ : S42)] : List (S42)))] : List (List (S42))))).bind fun t385 => (if t385 = 1 then ((pred_Of.f k 2 0 1 1 0 0 false 0 1 1 0 false 0 ([] : List (S46)) (([(([(⟨false, 5⟩ : S42)] : List (S42))), (([(⟨false, 5⟩ : S42)] : List (S42)))] : List (List (S42))))).bind fun t395 => (if t395 = 2 then ((pred_Right.f k 2 0 1 1 0 0 false 0 1 1 0 false 0 ([] : List (S46))).bind fun t396 => (if t396 = true then ((pred_Tables.f k 2 0 1 1 0 0 false 0 1 1 0 false 0 ([] : List (S46))).bind fun t397 => (if t397 = 3 then ((pred_Columns.f k 2 0 1 1 0 0 false 0 1 1 0 false 0 ([] : List (S46))).bind fun t398 => (if (t398.length : Int) = 2 then ((pred_Copy.f k 2 0 1 1 0 0 false 0 1 1 0 false 0 ([] : List (S46))).bind fun bt401 => ((pred_Same.f k 2 0 1 1 0 0 false 0 1 1 0 false 0 ([] : List (S46)) bt401.1 bt401.2.1 bt401.2.2.1 bt401.2.2.2.1 bt401.2.2.2.2.1 bt401.2.2.2.2.2.1 bt401.2.2.2.2.2.2.1 bt401.2.2.2.2.2.2.2.1 bt401.2.2.2.2.2.2.2.2.1 bt401.2.2.2.2.2.2.2.2.2.1 bt401.2.2.2.2.2.2.2.2.2.2.1 bt401.2.2.2.2.2.2.2.2.2.2.2.1 bt401.2.2.2.2.2.2.2.2.2.2.2.2.1 bt401.2.2.2.2.2.2.2.2.2.2.2.2.2).bind fun t417 => (if t417 = true then ((pred_All.f k ([] : List (S46)) ([] : List (List (S42)))).bind fun t418 => (some (t418 == 2))) else (none)))) else (none))) else (none))) else (none))) else (none))) else (none)))) = some r := h
 clear h
 replace H := Option.bind_eq_some_iff.mp H
 obtain ⟨⟨t361, t362, t363, t364, t365, t366, t367, t368, t369, t370, t371, t372, t373, t374⟩, A10, H⟩ := H
 have E_ := A10
 simp only [watersmeetlaw06_Equal.f, Option.some.injEq, Prod.mk.injEq] at E_
 obtain ⟨rfl, rfl, rfl, rfl, rfl, rfl, rfl, rfl, rfl, rfl, rfl, rfl, rfl, rfl⟩ := E_
 replace H : ((pred_Of.f k 2 0 1 1 0 0 false 0 1 1 0 false 0 ([] : List (S46)) (([(([(⟨false, 5⟩ : S42)] : List (S42))), (([(⟨true, 0⟩ : S42)] : List (S42)))] : List (List (S42))))).bind fun t385 => (if t385 = 1 then ((pred_Of.f k 2 0 1 1 0 0 false 0 1 1 0 false 0 ([] : List (S46)) (([(([(⟨false, 5⟩ : S42)] : List (S42))), (([(⟨false, 5⟩ : S42)] : List (S42)))] : List (List (S42))))).bind fun t395 => (if t395 = 2 then ((pred_Right.f k 2 0 1 1 0 0 false 0 1 1 0 false 0 ([] : List (S46))).bind fun t396 => (if t396 = true then ((pred_Tables.f k 2 0 1 1 0 0 false 0 1 1 0 false 0 ([] : List (S46))).bind fun t397 => (if t397 = 3 then ((pred_Columns.f k 2 0 1 1 0 0 false 0 1 1 0 false 0 ([] : List (S46))).bind fun t398 => (if (t398.length : Int) = 2 then ((pred_Copy.f k 2 0 1 1 0 0 false 0 1 1 0 false 0 ([] : List (S46))).bind fun bt401 => ((pred_Same.f k 2 0 1 1 0 0 false 0 1 1 0 false 0 ([] : List (S46)) bt401.1 bt401.2.1 bt401.2.2.1 bt401.2.2.2.1 bt401.2.2.2.2.1 bt401.2.2.2.2.2.1 bt401.2.2.2.2.2.2.1 bt401.2.2.2.2.2.2.2.1 bt401.2.2.2.2.2.2.2.2.1 bt401.2.2.2.2.2.2.2.2.2.1 bt401.2.2.2.2.2.2.2.2.2.2.1 bt401.2.2.2.2.2.2.2.2.2.2.2.1 bt401.2.2.2.2.2.2.2.2.2.2.2.2.1 bt401.2.2.2.2.2.2.2.2.2.2.2.2.2).bind fun t417 => (if t417 = true then ((pred_All.f k ([] : List (S46)) ([] : List (List (S42)))).bind fun t418 => (some (t418 == 2))) else (none)))) else (none))) else (none))) else (none))) else (none))) else (none))) = some r := H
 have A1 := Aside0.mk A10
 clear A10
 obtain ⟨y376, hy376⟩ : ∃ y_ : List (S42), y_ = (([(⟨false, 5⟩ : S42)] : List (S42))) := ⟨_, rfl⟩
 replace H : ((pred_Of.f k 2 0 1 1 0 0 false 0 1 1 0 false 0 ([] : List (S46)) (([y376, (([(⟨true, 0⟩ : S42)] : List (S42)))] : List (List (S42))))).bind fun t385 => (if t385 = 1 then ((pred_Of.f k 2 0 1 1 0 0 false 0 1 1 0 false 0 ([] : List (S46)) (([(([(⟨false, 5⟩ : S42)] : List (S42))), (([(⟨false, 5⟩ : S42)] : List (S42)))] : List (List (S42))))).bind fun t395 => (if t395 = 2 then ((pred_Right.f k 2 0 1 1 0 0 false 0 1 1 0 false 0 ([] : List (S46))).bind fun t396 => (if t396 = true then ((pred_Tables.f k 2 0 1 1 0 0 false 0 1 1 0 false 0 ([] : List (S46))).bind fun t397 => (if t397 = 3 then ((pred_Columns.f k 2 0 1 1 0 0 false 0 1 1 0 false 0 ([] : List (S46))).bind fun t398 => (if (t398.length : Int) = 2 then ((pred_Copy.f k 2 0 1 1 0 0 false 0 1 1 0 false 0 ([] : List (S46))).bind fun bt401 => ((pred_Same.f k 2 0 1 1 0 0 false 0 1 1 0 false 0 ([] : List (S46)) bt401.1 bt401.2.1 bt401.2.2.1 bt401.2.2.2.1 bt401.2.2.2.2.1 bt401.2.2.2.2.2.1 bt401.2.2.2.2.2.2.1 bt401.2.2.2.2.2.2.2.1 bt401.2.2.2.2.2.2.2.2.1 bt401.2.2.2.2.2.2.2.2.2.1 bt401.2.2.2.2.2.2.2.2.2.2.1 bt401.2.2.2.2.2.2.2.2.2.2.2.1 bt401.2.2.2.2.2.2.2.2.2.2.2.2.1 bt401.2.2.2.2.2.2.2.2.2.2.2.2.2).bind fun t417 => (if t417 = true then ((pred_All.f k ([] : List (S46)) ([] : List (List (S42)))).bind fun t418 => (some (t418 == 2))) else (none)))) else (none))) else (none))) else (none))) else (none))) else (none))) = some r := by first | (rw [hy376]; with_reducible exact H) | (have H2_ := (Option.bind_some _ _).symm.trans H; rw [hy376]; with_reducible exact H2_) | (have H2_ := (Option.bind_some _ _).symm.trans H; with_reducible exact H2_) | with_reducible exact H | (rw [hy376]; exact H) | exact H
 have Ny376 := Aside0.mk hy376
 clear hy376
 obtain ⟨y379, hy379⟩ : ∃ y_ : List (S42), y_ = (([(⟨true, 0⟩ : S42)] : List (S42))) := ⟨_, rfl⟩
 replace H : ((pred_Of.f k 2 0 1 1 0 0 false 0 1 1 0 false 0 ([] : List (S46)) (([y376, y379] : List (List (S42))))).bind fun t385 => (if t385 = 1 then ((pred_Of.f k 2 0 1 1 0 0 false 0 1 1 0 false 0 ([] : List (S46)) (([(([(⟨false, 5⟩ : S42)] : List (S42))), (([(⟨false, 5⟩ : S42)] : List (S42)))] : List (List (S42))))).bind fun t395 => (if t395 = 2 then ((pred_Right.f k 2 0 1 1 0 0 false 0 1 1 0 false 0 ([] : List (S46))).bind fun t396 => (if t396 = true then ((pred_Tables.f k 2 0 1 1 0 0 false 0 1 1 0 false 0 ([] : List (S46))).bind fun t397 => (if t397 = 3 then ((pred_Columns.f k 2 0 1 1 0 0 false 0 1 1 0 false 0 ([] : List (S46))).bind fun t398 => (if (t398.length : Int) = 2 then ((pred_Copy.f k 2 0 1 1 0 0 false 0 1 1 0 false 0 ([] : List (S46))).bind fun bt401 => ((pred_Same.f k 2 0 1 1 0 0 false 0 1 1 0 false 0 ([] : List (S46)) bt401.1 bt401.2.1 bt401.2.2.1 bt401.2.2.2.1 bt401.2.2.2.2.1 bt401.2.2.2.2.2.1 bt401.2.2.2.2.2.2.1 bt401.2.2.2.2.2.2.2.1 bt401.2.2.2.2.2.2.2.2.1 bt401.2.2.2.2.2.2.2.2.2.1 bt401.2.2.2.2.2.2.2.2.2.2.1 bt401.2.2.2.2.2.2.2.2.2.2.2.1 bt401.2.2.2.2.2.2.2.2.2.2.2.2.1 bt401.2.2.2.2.2.2.2.2.2.2.2.2.2).bind fun t417 => (if t417 = true then ((pred_All.f k ([] : List (S46)) ([] : List (List (S42)))).bind fun t418 => (some (t418 == 2))) else (none)))) else (none))) else (none))) else (none))) else (none))) else (none))) = some r := by first | (rw [hy379]; with_reducible exact H) | (have H2_ := (Option.bind_some _ _).symm.trans H; rw [hy379]; with_reducible exact H2_) | (have H2_ := (Option.bind_some _ _).symm.trans H; with_reducible exact H2_) | with_reducible exact H | (rw [hy379]; exact H) | exact H
 have Ny379 := Aside0.mk hy379
 clear hy379
 obtain ⟨y382, hy382⟩ : ∃ y_ : List (List (S42)), y_ = (([y376, y379] : List (List (S42)))) := ⟨_, rfl⟩
 replace H : ((pred_Of.f k 2 0 1 1 0 0 false 0 1 1 0 false 0 ([] : List (S46)) y382).bind fun t385 => (if t385 = 1 then ((pred_Of.f k 2 0 1 1 0 0 false 0 1 1 0 false 0 ([] : List (S46)) (([(([(⟨false, 5⟩ : S42)] : List (S42))), (([(⟨false, 5⟩ : S42)] : List (S42)))] : List (List (S42))))).bind fun t395 => (if t395 = 2 then ((pred_Right.f k 2 0 1 1 0 0 false 0 1 1 0 false 0 ([] : List (S46))).bind fun t396 => (if t396 = true then ((pred_Tables.f k 2 0 1 1 0 0 false 0 1 1 0 false 0 ([] : List (S46))).bind fun t397 => (if t397 = 3 then ((pred_Columns.f k 2 0 1 1 0 0 false 0 1 1 0 false 0 ([] : List (S46))).bind fun t398 => (if (t398.length : Int) = 2 then ((pred_Copy.f k 2 0 1 1 0 0 false 0 1 1 0 false 0 ([] : List (S46))).bind fun bt401 => ((pred_Same.f k 2 0 1 1 0 0 false 0 1 1 0 false 0 ([] : List (S46)) bt401.1 bt401.2.1 bt401.2.2.1 bt401.2.2.2.1 bt401.2.2.2.2.1 bt401.2.2.2.2.2.1 bt401.2.2.2.2.2.2.1 bt401.2.2.2.2.2.2.2.1 bt401.2.2.2.2.2.2.2.2.1 bt401.2.2.2.2.2.2.2.2.2.1 bt401.2.2.2.2.2.2.2.2.2.2.1 bt401.2.2.2.2.2.2.2.2.2.2.2.1 bt401.2.2.2.2.2.2.2.2.2.2.2.2.1 bt401.2.2.2.2.2.2.2.2.2.2.2.2.2).bind fun t417 => (if t417 = true then ((pred_All.f k ([] : List (S46)) ([] : List (List (S42)))).bind fun t418 => (some (t418 == 2))) else (none)))) else (none))) else (none))) else (none))) else (none))) else (none))) = some r := by first | (rw [hy382]; with_reducible exact H) | (have H2_ := (Option.bind_some _ _).symm.trans H; rw [hy382]; with_reducible exact H2_) | (have H2_ := (Option.bind_some _ _).symm.trans H; with_reducible exact H2_) | with_reducible exact H | (rw [hy382]; exact H) | exact H
 have Ny382 := Aside0.mk hy382
 clear hy382
 replace H := Option.bind_eq_some_iff.mp H
 obtain ⟨t385, A20, H⟩ := H
 replace H : (if t385 = 1 then ((pred_Of.f k 2 0 1 1 0 0 false 0 1 1 0 false 0 ([] : List (S46)) (([(([(⟨false, 5⟩ : S42)] : List (S42))), (([(⟨false, 5⟩ : S42)] : List (S42)))] : List (List (S42))))).bind fun t395 => (if t395 = 2 then ((pred_Right.f k 2 0 1 1 0 0 false 0 1 1 0 false 0 ([] : List (S46))).bind fun t396 => (if t396 = true then ((pred_Tables.f k 2 0 1 1 0 0 false 0 1 1 0 false 0 ([] : List (S46))).bind fun t397 => (if t397 = 3 then ((pred_Columns.f k 2 0 1 1 0 0 false 0 1 1 0 false 0 ([] : List (S46))).bind fun t398 => (if (t398.length : Int) = 2 then ((pred_Copy.f k 2 0 1 1 0 0 false 0 1 1 0 false 0 ([] : List (S46))).bind fun bt401 => ((pred_Same.f k 2 0 1 1 0 0 false 0 1 1 0 false 0 ([] : List (S46)) bt401.1 bt401.2.1 bt401.2.2.1 bt401.2.2.2.1 bt401.2.2.2.2.1 bt401.2.2.2.2.2.1 bt401.2.2.2.2.2.2.1 bt401.2.2.2.2.2.2.2.1 bt401.2.2.2.2.2.2.2.2.1 bt401.2.2.2.2.2.2.2.2.2.1 bt401.2.2.2.2.2.2.2.2.2.2.1 bt401.2.2.2.2.2.2.2.2.2.2.2.1 bt401.2.2.2.2.2.2.2.2.2.2.2.2.1 bt401.2.2.2.2.2.2.2.2.2.2.2.2.2).bind fun t417 => (if t417 = true then ((pred_All.f k ([] : List (S46)) ([] : List (List (S42)))).bind fun t418 => (some (t418 == 2))) else (none)))) else (none))) else (none))) else (none))) else (none))) else (none)) = some r := H
 have A2 := Aside0.mk A20
 clear A20
 by_cases c3 : t385 = 1
 ·rw [if_pos c3] at H
  have c3b0 : (t385 == 1) = true := beq_iff_eq.mpr c3
  have c3b1 : (t385 != 1) = false := bne_eq_false_iff_eq.mpr c3
  clear c3
  obtain ⟨y386, hy386⟩ : ∃ y_ : List (S42), y_ = (([(⟨false, 5⟩ : S42)] : List (S42))) := ⟨_, rfl⟩
  replace H : ((pred_Of.f k 2 0 1 1 0 0 false 0 1 1 0 false 0 ([] : List (S46)) (([y386, (([(⟨false, 5⟩ : S42)] : List (S42)))] : List (List (S42))))).bind fun t395 => (if t395 = 2 then ((pred_Right.f k 2 0 1 1 0 0 false 0 1 1 0 false 0 ([] : List (S46))).bind fun t396 => (if t396 = true then ((pred_Tables.f k 2 0 1 1 0 0 false 0 1 1 0 false 0 ([] : List (S46))).bind fun t397 => (if t397 = 3 then ((pred_Columns.f k 2 0 1 1 0 0 false 0 1 1 0 false 0 ([] : List (S46))).bind fun t398 => (if (t398.length : Int) = 2 then ((pred_Copy.f k 2 0 1 1 0 0 false 0 1 1 0 false 0 ([] : List (S46))).bind fun bt401 => ((pred_Same.f k 2 0 1 1 0 0 false 0 1 1 0 false 0 ([] : List (S46)) bt401.1 bt401.2.1 bt401.2.2.1 bt401.2.2.2.1 bt401.2.2.2.2.1 bt401.2.2.2.2.2.1 bt401.2.2.2.2.2.2.1 bt401.2.2.2.2.2.2.2.1 bt401.2.2.2.2.2.2.2.2.1 bt401.2.2.2.2.2.2.2.2.2.1 bt401.2.2.2.2.2.2.2.2.2.2.1 bt401.2.2.2.2.2.2.2.2.2.2.2.1 bt401.2.2.2.2.2.2.2.2.2.2.2.2.1 bt401.2.2.2.2.2.2.2.2.2.2.2.2.2).bind fun t417 => (if t417 = true then ((pred_All.f k ([] : List (S46)) ([] : List (List (S42)))).bind fun t418 => (some (t418 == 2))) else (none)))) else (none))) else (none))) else (none))) else (none))) = some r := by first | (rw [hy386]; with_reducible exact H) | (have H2_ := (Option.bind_some _ _).symm.trans H; rw [hy386]; with_reducible exact H2_) | (have H2_ := (Option.bind_some _ _).symm.trans H; with_reducible exact H2_) | with_reducible exact H | (rw [hy386]; exact H) | exact H
  have Ny386 := Aside0.mk hy386
  clear hy386
  obtain ⟨y389, hy389⟩ : ∃ y_ : List (S42), y_ = (([(⟨false, 5⟩ : S42)] : List (S42))) := ⟨_, rfl⟩
  replace H : ((pred_Of.f k 2 0 1 1 0 0 false 0 1 1 0 false 0 ([] : List (S46)) (([y386, y389] : List (List (S42))))).bind fun t395 => (if t395 = 2 then ((pred_Right.f k 2 0 1 1 0 0 false 0 1 1 0 false 0 ([] : List (S46))).bind fun t396 => (if t396 = true then ((pred_Tables.f k 2 0 1 1 0 0 false 0 1 1 0 false 0 ([] : List (S46))).bind fun t397 => (if t397 = 3 then ((pred_Columns.f k 2 0 1 1 0 0 false 0 1 1 0 false 0 ([] : List (S46))).bind fun t398 => (if (t398.length : Int) = 2 then ((pred_Copy.f k 2 0 1 1 0 0 false 0 1 1 0 false 0 ([] : List (S46))).bind fun bt401 => ((pred_Same.f k 2 0 1 1 0 0 false 0 1 1 0 false 0 ([] : List (S46)) bt401.1 bt401.2.1 bt401.2.2.1 bt401.2.2.2.1 bt401.2.2.2.2.1 bt401.2.2.2.2.2.1 bt401.2.2.2.2.2.2.1 bt401.2.2.2.2.2.2.2.1 bt401.2.2.2.2.2.2.2.2.1 bt401.2.2.2.2.2.2.2.2.2.1 bt401.2.2.2.2.2.2.2.2.2.2.1 bt401.2.2.2.2.2.2.2.2.2.2.2.1 bt401.2.2.2.2.2.2.2.2.2.2.2.2.1 bt401.2.2.2.2.2.2.2.2.2.2.2.2.2).bind fun t417 => (if t417 = true then ((pred_All.f k ([] : List (S46)) ([] : List (List (S42)))).bind fun t418 => (some (t418 == 2))) else (none)))) else (none))) else (none))) else (none))) else (none))) = some r := by first | (rw [hy389]; with_reducible exact H) | (have H2_ := (Option.bind_some _ _).symm.trans H; rw [hy389]; with_reducible exact H2_) | (have H2_ := (Option.bind_some _ _).symm.trans H; with_reducible exact H2_) | with_reducible exact H | (rw [hy389]; exact H) | exact H
  have Ny389 := Aside0.mk hy389
  clear hy389
  obtain ⟨y392, hy392⟩ : ∃ y_ : List (List (S42)), y_ = (([y386, y389] : List (List (S42)))) := ⟨_, rfl⟩
  replace H : ((pred_Of.f k 2 0 1 1 0 0 false 0 1 1 0 false 0 ([] : List (S46)) y392).bind fun t395 => (if t395 = 2 then ((pred_Right.f k 2 0 1 1 0 0 false 0 1 1 0 false 0 ([] : List (S46))).bind fun t396 => (if t396 = true then ((pred_Tables.f k 2 0 1 1 0 0 false 0 1 1 0 false 0 ([] : List (S46))).bind fun t397 => (if t397 = 3 then ((pred_Columns.f k 2 0 1 1 0 0 false 0 1 1 0 false 0 ([] : List (S46))).bind fun t398 => (if (t398.length : Int) = 2 then ((pred_Copy.f k 2 0 1 1 0 0 false 0 1 1 0 false 0 ([] : List (S46))).bind fun bt401 => ((pred_Same.f k 2 0 1 1 0 0 false 0 1 1 0 false 0 ([] : List (S46)) bt401.1 bt401.2.1 bt401.2.2.1 bt401.2.2.2.1 bt401.2.2.2.2.1 bt401.2.2.2.2.2.1 bt401.2.2.2.2.2.2.1 bt401.2.2.2.2.2.2.2.1 bt401.2.2.2.2.2.2.2.2.1 bt401.2.2.2.2.2.2.2.2.2.1 bt401.2.2.2.2.2.2.2.2.2.2.1 bt401.2.2.2.2.2.2.2.2.2.2.2.1 bt401.2.2.2.2.2.2.2.2.2.2.2.2.1 bt401.2.2.2.2.2.2.2.2.2.2.2.2.2).bind fun t417 => (if t417 = true then ((pred_All.f k ([] : List (S46)) ([] : List (List (S42)))).bind fun t418 => (some (t418 == 2))) else (none)))) else (none))) else (none))) else (none))) else (none))) = some r := by first | (rw [hy392]; with_reducible exact H) | (have H2_ := (Option.bind_some _ _).symm.trans H; rw [hy392]; with_reducible exact H2_) | (have H2_ := (Option.bind_some _ _).symm.trans H; with_reducible exact H2_) | with_reducible exact H | (rw [hy392]; exact H) | exact H
  have Ny392 := Aside0.mk hy392
  clear hy392
  replace H := Option.bind_eq_some_iff.mp H
  obtain ⟨t395, A40, H⟩ := H
  replace H : (if t395 = 2 then ((pred_Right.f k 2 0 1 1 0 0 false 0 1 1 0 false 0 ([] : List (S46))).bind fun t396 => (if t396 = true then ((pred_Tables.f k 2 0 1 1 0 0 false 0 1 1 0 false 0 ([] : List (S46))).bind fun t397 => (if t397 = 3 then ((pred_Columns.f k 2 0 1 1 0 0 false 0 1 1 0 false 0 ([] : List (S46))).bind fun t398 => (if (t398.length : Int) = 2 then ((pred_Copy.f k 2 0 1 1 0 0 false 0 1 1 0 false 0 ([] : List (S46))).bind fun bt401 => ((pred_Same.f k 2 0 1 1 0 0 false 0 1 1 0 false 0 ([] : List (S46)) bt401.1 bt401.2.1 bt401.2.2.1 bt401.2.2.2.1 bt401.2.2.2.2.1 bt401.2.2.2.2.2.1 bt401.2.2.2.2.2.2.1 bt401.2.2.2.2.2.2.2.1 bt401.2.2.2.2.2.2.2.2.1 bt401.2.2.2.2.2.2.2.2.2.1 bt401.2.2.2.2.2.2.2.2.2.2.1 bt401.2.2.2.2.2.2.2.2.2.2.2.1 bt401.2.2.2.2.2.2.2.2.2.2.2.2.1 bt401.2.2.2.2.2.2.2.2.2.2.2.2.2).bind fun t417 => (if t417 = true then ((pred_All.f k ([] : List (S46)) ([] : List (List (S42)))).bind fun t418 => (some (t418 == 2))) else (none)))) else (none))) else (none))) else (none))) else (none)) = some r := H
  have A4 := Aside0.mk A40
  clear A40
  by_cases c5 : t395 = 2
  ·rw [if_pos c5] at H
   have c5b0 : (t395 == 2) = true := beq_iff_eq.mpr c5
   have c5b1 : (t395 != 2) = false := bne_eq_false_iff_eq.mpr c5
   clear c5
   replace H := Option.bind_eq_some_iff.mp H
   obtain ⟨t396, A60, H⟩ := H
   replace H : (if t396 = true then ((pred_Tables.f k 2 0 1 1 0 0 false 0 1 1 0 false 0 ([] : List (S46))).bind fun t397 => (if t397 = 3 then ((pred_Columns.f k 2 0 1 1 0 0 false 0 1 1 0 false 0 ([] : List (S46))).bind fun t398 => (if (t398.length : Int) = 2 then ((pred_Copy.f k 2 0 1 1 0 0 false 0 1 1 0 false 0 ([] : List (S46))).bind fun bt401 => ((pred_Same.f k 2 0 1 1 0 0 false 0 1 1 0 false 0 ([] : List (S46)) bt401.1 bt401.2.1 bt401.2.2.1 bt401.2.2.2.1 bt401.2.2.2.2.1 bt401.2.2.2.2.2.1 bt401.2.2.2.2.2.2.1 bt401.2.2.2.2.2.2.2.1 bt401.2.2.2.2.2.2.2.2.1 bt401.2.2.2.2.2.2.2.2.2.1 bt401.2.2.2.2.2.2.2.2.2.2.1 bt401.2.2.2.2.2.2.2.2.2.2.2.1 bt401.2.2.2.2.2.2.2.2.2.2.2.2.1 bt401.2.2.2.2.2.2.2.2.2.2.2.2.2).bind fun t417 => (if t417 = true then ((pred_All.f k ([] : List (S46)) ([] : List (List (S42)))).bind fun t418 => (some (t418 == 2))) else (none)))) else (none))) else (none))) else (none)) = some r := H
   have A6 := Aside0.mk A60
   clear A60
   by_cases c7 : t396 = true
   ·subst c7
    have H1 : ((pred_Tables.f k 2 0 1 1 0 0 false 0 1 1 0 false 0 ([] : List (S46))).bind fun t397 => (if t397 = 3 then ((pred_Columns.f k 2 0 1 1 0 0 false 0 1 1 0 false 0 ([] : List (S46))).bind fun t398 => (if (t398.length : Int) = 2 then ((pred_Copy.f k 2 0 1 1 0 0 false 0 1 1 0 false 0 ([] : List (S46))).bind fun bt401 => ((pred_Same.f k 2 0 1 1 0 0 false 0 1 1 0 false 0 ([] : List (S46)) bt401.1 bt401.2.1 bt401.2.2.1 bt401.2.2.2.1 bt401.2.2.2.2.1 bt401.2.2.2.2.2.1 bt401.2.2.2.2.2.2.1 bt401.2.2.2.2.2.2.2.1 bt401.2.2.2.2.2.2.2.2.1 bt401.2.2.2.2.2.2.2.2.2.1 bt401.2.2.2.2.2.2.2.2.2.2.1 bt401.2.2.2.2.2.2.2.2.2.2.2.1 bt401.2.2.2.2.2.2.2.2.2.2.2.2.1 bt401.2.2.2.2.2.2.2.2.2.2.2.2.2).bind fun t417 => (if t417 = true then ((pred_All.f k ([] : List (S46)) ([] : List (List (S42)))).bind fun t418 => (some (t418 == 2))) else (none)))) else (none))) else (none))) = some r := by rw [if_pos rfl] at H; exact H
    clear H
    have H := H1
    clear H1
    replace H := Option.bind_eq_some_iff.mp H
    obtain ⟨t397, A80, H⟩ := H
    replace H : (if t397 = 3 then ((pred_Columns.f k 2 0 1 1 0 0 false 0 1 1 0 false 0 ([] : List (S46))).bind fun t398 => (if (t398.length : Int) = 2 then ((pred_Copy.f k 2 0 1 1 0 0 false 0 1 1 0 false 0 ([] : List (S46))).bind fun bt401 => ((pred_Same.f k 2 0 1 1 0 0 false 0 1 1 0 false 0 ([] : List (S46)) bt401.1 bt401.2.1 bt401.2.2.1 bt401.2.2.2.1 bt401.2.2.2.2.1 bt401.2.2.2.2.2.1 bt401.2.2.2.2.2.2.1 bt401.2.2.2.2.2.2.2.1 bt401.2.2.2.2.2.2.2.2.1 bt401.2.2.2.2.2.2.2.2.2.1 bt401.2.2.2.2.2.2.2.2.2.2.1 bt401.2.2.2.2.2.2.2.2.2.2.2.1 bt401.2.2.2.2.2.2.2.2.2.2.2.2.1 bt401.2.2.2.2.2.2.2.2.2.2.2.2.2).bind fun t417 => (if t417 = true then ((pred_All.f k ([] : List (S46)) ([] : List (List (S42)))).bind fun t418 => (some (t418 == 2))) else (none)))) else (none))) else (none)) = some r := H
    have A8 := Aside0.mk A80
    clear A80
    by_cases c9 : t397 = 3
    ·rw [if_pos c9] at H
     have c9b0 : (t397 == 3) = true := beq_iff_eq.mpr c9
     have c9b1 : (t397 != 3) = false := bne_eq_false_iff_eq.mpr c9
     clear c9
     replace H := Option.bind_eq_some_iff.mp H
     obtain ⟨t398, A100, H⟩ := H
     replace H : (if (t398.length : Int) = 2 then ((pred_Copy.f k 2 0 1 1 0 0 false 0 1 1 0 false 0 ([] : List (S46))).bind fun bt401 => ((pred_Same.f k 2 0 1 1 0 0 false 0 1 1 0 false 0 ([] : List (S46)) bt401.1 bt401.2.1 bt401.2.2.1 bt401.2.2.2.1 bt401.2.2.2.2.1 bt401.2.2.2.2.2.1 bt401.2.2.2.2.2.2.1 bt401.2.2.2.2.2.2.2.1 bt401.2.2.2.2.2.2.2.2.1 bt401.2.2.2.2.2.2.2.2.2.1 bt401.2.2.2.2.2.2.2.2.2.2.1 bt401.2.2.2.2.2.2.2.2.2.2.2.1 bt401.2.2.2.2.2.2.2.2.2.2.2.2.1 bt401.2.2.2.2.2.2.2.2.2.2.2.2.2).bind fun t417 => (if t417 = true then ((pred_All.f k ([] : List (S46)) ([] : List (List (S42)))).bind fun t418 => (some (t418 == 2))) else (none)))) else (none)) = some r := H
     have A10 := Aside0.mk A100
     clear A100
     by_cases c11 : (t398.length : Int) = 2
     ·rw [if_pos c11] at H
      have c11b0 : ((t398.length : Int) == 2) = true := beq_iff_eq.mpr c11
      have c11b1 : ((t398.length : Int) != 2) = false := bne_eq_false_iff_eq.mpr c11
      clear c11
      replace H := Option.bind_eq_some_iff.mp H
      obtain ⟨⟨t401, t402, t403, t404, t405, t406, t407, t408, t409, t410, t411, t412, t413, t414⟩, A120, H⟩ := H
      replace H : ((pred_Same.f k 2 0 1 1 0 0 false 0 1 1 0 false 0 ([] : List (S46)) t401 t402 t403 t404 t405 t406 t407 t408 t409 t410 t411 t412 t413 t414).bind fun t417 => (if t417 = true then ((pred_All.f k ([] : List (S46)) ([] : List (List (S42)))).bind fun t418 => (some (t418 == 2))) else (none))) = some r := H
      have A12 := Aside0.mk A120
      clear A120
      replace H := Option.bind_eq_some_iff.mp H
      obtain ⟨t417, A130, H⟩ := H
      replace H : (if t417 = true then ((pred_All.f k ([] : List (S46)) ([] : List (List (S42)))).bind fun t418 => (some (t418 == 2))) else (none)) = some r := H
      have A13 := Aside0.mk A130
      clear A130
      by_cases c14 : t417 = true
      ·subst c14
       have H1 : ((pred_All.f k ([] : List (S46)) ([] : List (List (S42)))).bind fun t418 => (some (t418 == 2))) = some r := by rw [if_pos rfl] at H; exact H
       clear H
       have H := H1
       clear H1
       replace H := Option.bind_eq_some_iff.mp H
       obtain ⟨t418, A150, H⟩ := H
       replace H : (some (t418 == 2)) = some r := H
       have A15 := Aside0.mk A150
       clear A150
       obtain rfl := Option.some.inj H
       go_enter Try.func34, Try.ntmps34
       try go_wp2_with (first | ((with_reducible refine gate_callee (f := 55) rfl ?_); refine goesL_ (some 2) rfl rfl Try.func55 (by kernel_rfl) rfl #[.int .i64 0, .int .i64 1] rfl (by (try simp only [List.map_toArray, List.map_cons, List.map_nil]); first | done | rfl | (simp only [List.length_drop, List.length_take]; rfl)) ?_; (with_reducible refine (watersmeetlaw06_Equal.calls 0 1 2 0 1 1 0 0 false 0 1 1 0 false 0 [] _ A1.out).mono ?_); rintro e w16 ⟨rfl, hb⟩; refine ⟨_, rfl, ?_⟩; have n0_ := Aside0.mk (below_step (by repeat (first | (with_reducible first | exact HB.out | apply below_alloc | apply pw_below_drewN | apply below_drew1) | exact HB.out)) hb); clear HB; have HB := n0_; clear n0_; (try clear hb); (try clear hb2); (try clear hk); (try clear hi)) | ((with_reducible refine gate_dst (N := 1) rfl ?_); (try (refine gate_guard (by rfl) ?_; dsimp only)); refine box_event ?hg (N := 1) ?hd (cs := #[.int .i64 0, .int .i64 0, .int .i64 0, .int .i64 0, .int .i64 0, .int .i64 0, .bool false, .int .i64 0, .int .i64 0, .int .i64 0, .int .i64 0, .bool false, .int .i64 0, .slice none 0 0]) (t := 46) ?hr ?_; (case hd => rfl); (case hg => (first | rfl | exact wanted_on rfl rfl rfl (e11.trans (by first | rfl | (simp [*]; done))) | exact wanted_on rfl rfl rfl (e21.trans (by first | rfl | (simp [*]; done))) | exact wanted_on rfl rfl rfl (e25.trans (by first | rfl | (simp [*]; done))) | exact wanted_on rfl rfl rfl (e30.trans (by first | rfl | (simp [*]; done))) | exact wanted_on rfl rfl rfl (e36.trans (by first | rfl | (simp [*]; done))) | exact wanted_on rfl rfl rfl (e42.trans (by first | rfl | (simp [*]; done))))); (case hr => first | (go_simp; done) | (go_simp; rfl)); intro gb375 hg w17 hbox hb; have n0_ := Aside0.mk (below_step (by repeat (first | (with_reducible first | exact HB.out | apply below_alloc | apply pw_below_drewN | apply below_drew1) | exact HB.out)) hb); have n1_ := Aside0.mk (hbox); have n2_ := Aside0.mk ((by rw [hg]; exact (below_size (by repeat (first | (with_reducible first | exact HB.out | apply below_alloc | apply pw_below_drewN | apply below_drew1) | exact HB.out))) : w.heap.size ≤ gb375)); have n3_ := n2_; clear HB; have HB := n0_; have BK375 := n1_; have GW375 := n2_; have GE375 := n3_; clear n0_ n1_ n2_ n3_; clear hb hbox hg; have hcz18 := blk_cell BK375.out; have hfz18 := blk_frozen BK375.out; have hfz18_13 := blk_frozen BK375.out 13))
       have n0_ : Aside0 (((((((((((((((w17.setCell ⟨gb375, 0, none⟩ (.int .i64 2)).setCell ⟨gb375, 1, none⟩ (.int .i64 0)).setCell ⟨gb375, 2, none⟩ (.int .i64 1)).setCell ⟨gb375, 3, none⟩ (.int .i64 1)).setCell ⟨gb375, 4, none⟩ (.int .i64 0)).setCell ⟨gb375, 5, none⟩ (.int .i64 0)).setCell ⟨gb375, 6, none⟩ (.bool false)).setCell ⟨gb375, 7, none⟩ (.int .i64 0)).setCell ⟨gb375, 8, none⟩ (.int .i64 1)).setCell ⟨gb375, 9, none⟩ (.int .i64 1)).setCell ⟨gb375, 10, none⟩ (.int .i64 0)).setCell ⟨gb375, 11, none⟩ (.bool false)).setCell ⟨gb375, 12, none⟩ (.int .i64 0)).setCell ⟨gb375, 13, none⟩ (.slice none 0 0)).heap[gb375]? = some (.cells #[.int .i64 2, .int .i64 0, .int .i64 1, .int .i64 1, .int .i64 0, .int .i64 0, .bool false, .int .i64 0, .int .i64 1, .int .i64 1, .int .i64 0, .bool false, .int .i64 0, .slice none 0 0] 46 (0, 0))) := ⟨by (with_reducible repeat (first | refine blk_drewN ?_ _ | refine blk_drew ?_ | refine blk_alloc ?_ _)); refine blk_put (cs := #[.int .i64 2, .int .i64 0, .int .i64 1, .int .i64 1, .int .i64 0, .int .i64 0, .bool false, .int .i64 0, .int .i64 1, .int .i64 1, .int .i64 0, .bool false, .int .i64 0, .slice none 0 0]) ?_ 13 _ rfl; (with_reducible repeat (first | refine blk_drewN ?_ _ | refine blk_drew ?_ | refine blk_alloc ?_ _)); refine blk_put (cs := #[.int .i64 2, .int .i64 0, .int .i64 1, .int .i64 1, .int .i64 0, .int .i64 0, .bool false, .int .i64 0, .int .i64 1, .int .i64 1, .int .i64 0, .bool false, .int .i64 0, .slice none 0 0]) ?_ 12 _ rfl; (with_reducible repeat (first | refine blk_drewN ?_ _ | refine blk_drew ?_ | refine blk_alloc ?_ _)); refine blk_put (cs := #[.int .i64 2, .int .i64 0, .int .i64 1, .int .i64 1, .int .i64 0, .int .i64 0, .bool false, .int .i64 0, .int .i64 1, .int .i64 1, .int .i64 0, .bool false, .int .i64 0, .slice none 0 0]) ?_ 11 _ rfl; (with_reducible repeat (first | refine blk_drewN ?_ _ | refine blk_drew ?_ | refine blk_alloc ?_ _)); refine blk_put (cs := #[.int .i64 2, .int .i64 0, .int .i64 1, .int .i64 1, .int .i64 0, .int .i64 0, .bool false, .int .i64 0, .int .i64 1, .int .i64 1, .int .i64 0, .bool false, .int .i64 0, .slice none 0 0]) ?_ 10 _ rfl; (with_reducible repeat (first | refine blk_drewN ?_ _ | refine blk_drew ?_ | refine blk_alloc ?_ _)); refine blk_put (cs := #[.int .i64 2, .int .i64 0, .int .i64 1, .int .i64 1, .int .i64 0, .int .i64 0, .bool false, .int .i64 0, .int .i64 1, .int .i64 0, .int .i64 0, .bool false, .int .i64 0, .slice none 0 0]) ?_ 9 _ rfl; (with_reducible repeat (first | refine blk_drewN ?_ _ | refine blk_drew ?_ | refine blk_alloc ?_ _)); refine blk_put (cs := #[.int .i64 2, .int .i64 0, .int .i64 1, .int .i64 1, .int .i64 0, .int .i64 0, .bool false, .int .i64 0, .int .i64 0, .int .i64 0, .int .i64 0, .bool false, .int .i64 0, .slice none 0 0]) ?_ 8 _ rfl; (with_reducible repeat (first | refine blk_drewN ?_ _ | refine blk_drew ?_ | refine blk_alloc ?_ _)); refine blk_put (cs := #[.int .i64 2, .int .i64 0, .int .i64 1, .int .i64 1, .int .i64 0, .int .i64 0, .bool false, .int .i64 0, .int .i64 0, .int .i64 0, .int .i64 0, .bool false, .int .i64 0, .slice none 0 0]) ?_ 7 _ rfl; (with_reducible repeat (first | refine blk_drewN ?_ _ | refine blk_drew ?_ | refine blk_alloc ?_ _)); refine blk_put (cs := #[.int .i64 2, .int .i64 0, .int .i64 1, .int .i64 1, .int .i64 0, .int .i64 0, .bool false, .int .i64 0, .int .i64 0, .int .i64 0, .int .i64 0, .bool false, .int .i64 0, .slice none 0 0]) ?_ 6 _ rfl; (with_reducible repeat (first | refine blk_drewN ?_ _ | refine blk_drew ?_ | refine blk_alloc ?_ _)); refine blk_put (cs := #[.int .i64 2, .int .i64 0, .int .i64 1, .int .i64 1, .int .i64 0, .int .i64 0, .bool false, .int .i64 0, .int .i64 0, .int .i64 0, .int .i64 0, .bool false, .int .i64 0, .slice none 0 0]) ?_ 5 _ rfl; (with_reducible repeat (first | refine blk_drewN ?_ _ | refine blk_drew ?_ | refine blk_alloc ?_ _)); refine blk_put (cs := #[.int .i64 2, .int .i64 0, .int .i64 1, .int .i64 1, .int .i64 0, .int .i64 0, .bool false, .int .i64 0, .int .i64 0, .int .i64 0, .int .i64 0, .bool false, .int .i64 0, .slice none 0 0]) ?_ 4 _ rfl; (with_reducible repeat (first | refine blk_drewN ?_ _ | refine blk_drew ?_ | refine blk_alloc ?_ _)); refine blk_put (cs := #[.int .i64 2, .int .i64 0, .int .i64 1, .int .i64 0, .int .i64 0, .int .i64 0, .bool false, .int .i64 0, .int .i64 0, .int .i64 0, .int .i64 0, .bool false, .int .i64 0, .slice none 0 0]) ?_ 3 _ rfl; (with_reducible repeat (first | refine blk_drewN ?_ _ | refine blk_drew ?_ | refine blk_alloc ?_ _)); refine blk_put (cs := #[.int .i64 2, .int .i64 0, .int .i64 0, .int .i64 0, .int .i64 0, .int .i64 0, .bool false, .int .i64 0, .int .i64 0, .int .i64 0, .int .i64 0, .bool false, .int .i64 0, .slice none 0 0]) ?_ 2 _ rfl; (with_reducible repeat (first | refine blk_drewN ?_ _ | refine blk_drew ?_ | refine blk_alloc ?_ _)); refine blk_put (cs := #[.int .i64 2, .int .i64 0, .int .i64 0, .int .i64 0, .int .i64 0, .int .i64 0, .bool false, .int .i64 0, .int .i64 0, .int .i64 0, .int .i64 0, .bool false, .int .i64 0, .slice none 0 0]) ?_ 1 _ rfl; (with_reducible repeat (first | refine blk_drewN ?_ _ | refine blk_drew ?_ | refine blk_alloc ?_ _)); refine blk_put (cs := #[.int .i64 0, .int .i64 0, .int .i64 0, .int .i64 0, .int .i64 0, .int .i64 0, .bool false, .int .i64 0, .int .i64 0, .int .i64 0, .int .i64 0, .bool false, .int .i64 0, .slice none 0 0]) ?_ 0 _ rfl; (with_reducible repeat (first | refine blk_drewN ?_ _ | refine blk_drew ?_ | refine blk_alloc ?_ _)); exact BK375.out⟩
       have n1_ : Aside0 (Below w.heap.size w ((((((((((((((w17.setCell ⟨gb375, 0, none⟩ (.int .i64 2)).setCell ⟨gb375, 1, none⟩ (.int .i64 0)).setCell ⟨gb375, 2, none⟩ (.int .i64 1)).setCell ⟨gb375, 3, none⟩ (.int .i64 1)).setCell ⟨gb375, 4, none⟩ (.int .i64 0)).setCell ⟨gb375, 5, none⟩ (.int .i64 0)).setCell ⟨gb375, 6, none⟩ (.bool false)).setCell ⟨gb375, 7, none⟩ (.int .i64 0)).setCell ⟨gb375, 8, none⟩ (.int .i64 1)).setCell ⟨gb375, 9, none⟩ (.int .i64 1)).setCell ⟨gb375, 10, none⟩ (.int .i64 0)).setCell ⟨gb375, 11, none⟩ (.bool false)).setCell ⟨gb375, 12, none⟩ (.int .i64 0)).setCell ⟨gb375, 13, none⟩ (.slice none 0 0))) := ⟨by repeat (first | (with_reducible first | exact HB.out | apply below_alloc | apply pw_below_drewN | apply below_drew1 | refine below_set ?_ GE375.out) | exact HB.out)⟩
       (try clear BK375)
       (try clear HB)
       generalize ((((((((((((((w17.setCell ⟨gb375, 0, none⟩ (.int .i64 2)).setCell ⟨gb375, 1, none⟩ (.int .i64 0)).setCell ⟨gb375, 2, none⟩ (.int .i64 1)).setCell ⟨gb375, 3, none⟩ (.int .i64 1)).setCell ⟨gb375, 4, none⟩ (.int .i64 0)).setCell ⟨gb375, 5, none⟩ (.int .i64 0)).setCell ⟨gb375, 6, none⟩ (.bool false)).setCell ⟨gb375, 7, none⟩ (.int .i64 0)).setCell ⟨gb375, 8, none⟩ (.int .i64 1)).setCell ⟨gb375, 9, none⟩ (.int .i64 1)).setCell ⟨gb375, 10, none⟩ (.int .i64 0)).setCell ⟨gb375, 11, none⟩ (.bool false)).setCell ⟨gb375, 12, none⟩ (.int .i64 0)).setCell ⟨gb375, 13, none⟩ (.slice none 0 0)) = w19 at n0_ n1_ ⊢
       have BK375 := n0_
       have HB := n1_
       clear n0_ n1_
       have n0_ := Aside0.mk (blk_drew BK375.out)
       have n1_ := Aside0.mk (below_drew1 HB.out)
       clear BK375
       clear HB
       have BK375 := n0_
       have HB := n1_
       clear n0_ n1_
       refine start_ (n := 44) (S := fun w' => True) (ds := []) #[false, false, false, false, false, false, false, false, false, false, false, false, false, false, false, false, false, false, false, false, false, false, false, false, false, false, false, false, false, false, false, false, false, false, false, false, false, false, false, false, false, false, false, false] (by kernel_rfl) rfl rfl trivial (fun hHeld => ?_); refine with_tabW watersmeetlaw06_awake.tab2 watersmeetlaw06_awake.bits2 (fun HT_ HW_ => ?_)
       generalize w19.drew = w20 at BK375 HB hHeld ⊢
       refine inv_at [0, 1, 2, 3, 4, 5, 6, 7, 8, 9, 10, 11, 12, 13, 14, 15, 16, 17, 18, 19, 20, 21, 22, 23, 24, 25, 26, 27, 28, 29, 30, 31, 32, 33, 34, 35, 36, 37, 38, 39, 40, 41, 42, 43] (fun a0_ b a w' => ∃ (v377 : Value) (v380 : Value) (v383 : Value) (v387 : Value) (v390 : Value) (v393 : Value) (v399 : Value) (v415 : Value) (m36_ : Value), a = putSel a0_ b [(0, 3, .agg #[.int .i64 2, .int .i64 0, .int .i64 1, .int .i64 1, .int .i64 0, .int .i64 0, .bool false, .int .i64 0, .int .i64 1, .int .i64 1, .int .i64 0, .bool false, .int .i64 0, .slice none 0 0]), (1, 4, .agg #[.bool false, .int .i64 5]), (2, 5, v377), (3, 6, .agg #[.bool true, .int .i64 0]), (4, 7, v380), (5, 8, v383), (6, 9, .int .i64 t385), (7, 10, .bool (t385 == 1)), (8, 11, .bool (t385 == 1)), (9, 12, .agg #[.int .i64 2, .int .i64 0, .int .i64 1, .int .i64 1, .int .i64 0, .int .i64 0, .bool false, .int .i64 0, .int .i64 1, .int .i64 1, .int .i64 0, .bool false, .int .i64 0, .slice none 0 0]), (10, 13, .agg #[.bool false, .int .i64 5]), (11, 14, v387), (12, 15, .agg #[.bool false, .int .i64 5]), (13, 16, v390), (14, 17, v393), (15, 18, .int .i64 t395), (16, 19, .bool (t395 == 2)), (17, 20, .bool (t395 == 2)), (18, 21, .bool (t395 == 2)), (19, 22, .agg #[.int .i64 2, .int .i64 0, .int .i64 1, .int .i64 1, .int .i64 0, .int .i64 0, .bool false, .int .i64 0, .int .i64 1, .int .i64 1, .int .i64 0, .bool false, .int .i64 0, .slice none 0 0]), (20, 23, .bool true), (21, 24, .bool true), (22, 25, .bool true), (23, 26, .agg #[.int .i64 2, .int .i64 0, .int .i64 1, .int .i64 1, .int .i64 0, .int .i64 0, .bool false, .int .i64 0, .int .i64 1, .int .i64 1, .int .i64 0, .bool false, .int .i64 0, .slice none 0 0]), (24, 27, .int .u64 t397), (25, 28, .bool (t397 == 3)), (26, 29, .bool (t397 == 3)), (27, 30, .bool (t397 == 3)), (28, 31, .agg #[.int .i64 2, .int .i64 0, .int .i64 1, .int .i64 1, .int .i64 0, .int .i64 0, .bool false, .int .i64 0, .int .i64 1, .int .i64 1, .int .i64 0, .bool false, .int .i64 0, .slice none 0 0]), (29, 32, v399), (30, 33, .int .i64 (t398.length : Int)), (31, 34, .bool ((t398.length : Int) == 2)), (32, 35, .bool ((t398.length : Int) == 2)), (33, 36, .bool ((t398.length : Int) == 2)), (34, 37, .agg #[.int .i64 2, .int .i64 0, .int .i64 1, .int .i64 1, .int .i64 0, .int .i64 0, .bool false, .int .i64 0, .int .i64 1, .int .i64 1, .int .i64 0, .bool false, .int .i64 0, .slice none 0 0]), (35, 38, .agg #[.int .i64 2, .int .i64 0, .int .i64 1, .int .i64 1, .int .i64 0, .int .i64 0, .bool false, .int .i64 0, .int .i64 1, .int .i64 1, .int .i64 0, .bool false, .int .i64 0, .slice none 0 0]), (36, 39, m36_), (37, 40, .bool true), (38, 41, .bool true), (39, 42, .bool true), (40, 43, .int .i64 t418), (41, 44, .bool (t418 == 2)), (42, 45, .bool (t418 == 2)), (43, 0, .bool (t418 == 2))] ∧ (w'.heap[gb375]? = some (.cells #[.int .i64 2, .int .i64 0, .int .i64 1, .int .i64 1, .int .i64 0, .int .i64 0, .bool false, .int .i64 0, .int .i64 1, .int .i64 1, .int .i64 0, .bool false, .int .i64 0, .slice none 0 0] 46 (0, 0))) ∧ (Below w.heap.size w w') ∧ (b 2 = true → b 5 = false → Kd.R k42 42 w' w.heap.size (fun _ => True) v377 y376) ∧ (b 4 = true → b 5 = false → Kd.R k42 42 w' w.heap.size (fun _ => True) v380 y379) ∧ (b 5 = true → Kd.N (Kd.slice 42 k42) 53 w' w.heap.size (fun k_ => k_ ≠ gb375) v383 y382) ∧ (b 11 = true → b 14 = false → Kd.R k42 42 w' w.heap.size (fun _ => True) v387 y386) ∧ (b 13 = true → b 14 = false → Kd.R k42 42 w' w.heap.size (fun _ => True) v390 y389) ∧ (b 14 = true → Kd.N (Kd.slice 42 k42) 53 w' w.heap.size (fun k_ => k_ ≠ gb375) v393 y392) ∧ (b 29 = true → Kd.R k61 61 w' w.heap.size (fun _ => True) v399 t398) ∧ (b 36 = true → Kd.N k46 46 w' w.heap.size (fun k_ => k_ ≠ gb375) v415 t414) ∧ (b 36 = true → (m36_ : Value) = .agg #[.int .i64 t401, .int .i64 t402, .int .i64 t403, .int .i64 t404, .int .i64 t405, .int .i64 t406, .bool t407, .int .i64 t408, .int .i64 t409, .int .i64 t410, .int .i64 t411, .bool t412, .int .i64 t413, v415])) HT_.out HW_.out (by kernel_rfl) (by kernel_rfl) ?_ ?_ ?_
       ·exact ⟨.bool false, .bool false, .bool false, .bool false, .bool false, .bool false, .bool false, .bool false, .bool false, by simp only [putSel, Bool.false_eq_true, if_false], BK375.out, HB.out, fun h_ => absurd h_ (by decide), fun h_ => absurd h_ (by decide), fun h_ => absurd h_ (by decide), fun h_ => absurd h_ (by decide), fun h_ => absurd h_ (by decide), fun h_ => absurd h_ (by decide), fun h_ => absurd h_ (by decide), fun h_ => absurd h_ (by decide), fun h_ => absurd h_ (by decide)⟩
       ·skip
        clear BK375 HB
        refine steps_cons ?_ ?_
        ·rintro b a w' ⟨v377, v380, v383, v387, v390, v393, v399, v415, m36_, ha, Q_BK375, Q_HB, Q_HO378, Q_HO381, Q_HO384, Q_HO388, Q_HO391, Q_HO394, Q_HO400, Q_HO416, Q_X36_⟩ hb_ hon hoff
         refine ⟨_, rfl, fun K hK => ?_⟩
         have e1 : a.tmps[1]? = some (.pointer (some ⟨gb375, 0, none⟩)) := by rw [ha]; exact (putSel_off rfl).trans rfl
         replace ha := Aside0.mk ha
         have BK375 := Aside0.mk Q_BK375
         have HB := Aside0.mk Q_HB
         have hc0_ : w'.cell? ⟨gb375, 0, none⟩ = some (.int .i64 2) := (blk_cell BK375.out 0).trans rfl
         have hc1_ : w'.cell? ⟨gb375, 1, none⟩ = some (.int .i64 0) := (blk_cell BK375.out 1).trans rfl
         have hc2_ : w'.cell? ⟨gb375, 2, none⟩ = some (.int .i64 1) := (blk_cell BK375.out 2).trans rfl
         have hc3_ : w'.cell? ⟨gb375, 3, none⟩ = some (.int .i64 1) := (blk_cell BK375.out 3).trans rfl
         have hc4_ : w'.cell? ⟨gb375, 4, none⟩ = some (.int .i64 0) := (blk_cell BK375.out 4).trans rfl
         have hc5_ : w'.cell? ⟨gb375, 5, none⟩ = some (.int .i64 0) := (blk_cell BK375.out 5).trans rfl
         have hc6_ : w'.cell? ⟨gb375, 6, none⟩ = some (.bool false) := (blk_cell BK375.out 6).trans rfl
         have hc7_ : w'.cell? ⟨gb375, 7, none⟩ = some (.int .i64 0) := (blk_cell BK375.out 7).trans rfl
         have hc8_ : w'.cell? ⟨gb375, 8, none⟩ = some (.int .i64 1) := (blk_cell BK375.out 8).trans rfl
         have hc9_ : w'.cell? ⟨gb375, 9, none⟩ = some (.int .i64 1) := (blk_cell BK375.out 9).trans rfl
         have hc10_ : w'.cell? ⟨gb375, 10, none⟩ = some (.int .i64 0) := (blk_cell BK375.out 10).trans rfl
         have hc11_ : w'.cell? ⟨gb375, 11, none⟩ = some (.bool false) := (blk_cell BK375.out 11).trans rfl
         have hc12_ : w'.cell? ⟨gb375, 12, none⟩ = some (.int .i64 0) := (blk_cell BK375.out 12).trans rfl
         have hc13_ : w'.cell? ⟨gb375, 13, none⟩ = some (.slice none 0 0) := (blk_cell BK375.out 13).trans rfl
         refine value_ (w1 := w') (v := .agg #[.int .i64 2, .int .i64 0, .int .i64 1, .int .i64 1, .int .i64 0, .int .i64 0, .bool false, .int .i64 0, .int .i64 1, .int .i64 1, .int .i64 0, .bool false, .int .i64 0, .slice none 0 0]) (by rfl) rfl ?_ ?_
         ·go_simp
          (try simp only [i64_w])
          try rfl
         refine hK.out _ _ ⟨v377, v380, v383, v387, v390, v393, v399, v415, m36_, (by rw [ha.out]; exact putSel_upk 0 hb_ rfl rfl rfl), Q_BK375, Q_HB, Q_HO378, Q_HO381, Q_HO384, fun h0_ _ => absurd ((hoff 11 (by kernel_rfl)).symm.trans h0_) (by decide), fun h0_ _ => absurd ((hoff 13 (by kernel_rfl)).symm.trans h0_) (by decide), fun h0_ => absurd ((hoff 14 (by kernel_rfl)).symm.trans h0_) (by decide), fun h0_ => absurd ((hoff 29 (by kernel_rfl)).symm.trans h0_) (by decide), fun h0_ => absurd ((hoff 36 (by kernel_rfl)).symm.trans h0_) (by decide), fun h0_ => absurd ((hoff 36 (by kernel_rfl)).symm.trans h0_) (by decide)⟩
        refine steps_cons ?_ ?_
        ·rintro b a w' ⟨v377, v380, v383, v387, v390, v393, v399, v415, m36_, ha, Q_BK375, Q_HB, Q_HO378, Q_HO381, Q_HO384, Q_HO388, Q_HO391, Q_HO394, Q_HO400, Q_HO416, Q_X36_⟩ hb_ hon hoff
         refine ⟨_, rfl, fun K hK => ?_⟩
         replace ha := Aside0.mk ha
         have BK375 := Aside0.mk Q_BK375
         have HB := Aside0.mk Q_HB
         refine value_ (w1 := w') (v := .agg #[.bool false, .int .i64 5]) (by rfl) rfl ?_ ?_
         ·go_simp
          (try simp only [i64_w])
          try rfl
         refine hK.out _ _ ⟨v377, v380, v383, v387, v390, v393, v399, v415, m36_, (by rw [ha.out]; exact putSel_upk 1 hb_ rfl rfl rfl), Q_BK375, Q_HB, fun h0_ _ => absurd ((hoff 2 (by kernel_rfl)).symm.trans h0_) (by decide), Q_HO381, fun h0_ => absurd ((hoff 5 (by kernel_rfl)).symm.trans h0_) (by decide), fun h0_ _ => absurd ((hoff 11 (by kernel_rfl)).symm.trans h0_) (by decide), fun h0_ _ => absurd ((hoff 13 (by kernel_rfl)).symm.trans h0_) (by decide), fun h0_ => absurd ((hoff 14 (by kernel_rfl)).symm.trans h0_) (by decide), fun h0_ => absurd ((hoff 29 (by kernel_rfl)).symm.trans h0_) (by decide), fun h0_ => absurd ((hoff 36 (by kernel_rfl)).symm.trans h0_) (by decide), fun h0_ => absurd ((hoff 36 (by kernel_rfl)).symm.trans h0_) (by decide)⟩
        refine steps_cons ?_ ?_
        ·rintro b a w' ⟨v377, v380, v383, v387, v390, v393, v399, v415, m36_, ha, Q_BK375, Q_HB, Q_HO378, Q_HO381, Q_HO384, Q_HO388, Q_HO391, Q_HO394, Q_HO400, Q_HO416, Q_X36_⟩ hb_ hon hoff
         refine ⟨_, rfl, fun K hK => ?_⟩
         have e4 : a.tmps[4]? = some (.agg #[.bool false, .int .i64 5]) := by rw [ha]; exact putSel_on (e := (1, 4, .agg #[.bool false, .int .i64 5])) 1 rfl rfl (hon 1 (by kernel_rfl)) rfl
         replace ha := Aside0.mk ha
         have BK375 := Aside0.mk Q_BK375
         have HB := Aside0.mk Q_HB
         refine Kd.R_lit_step k42 _ 42 ?hg (N := 5) ?hd (xs := ([(⟨false, 5⟩ : S42)] : List (S42))) (inner := [.bool false, .int .i64 5]) (ok := fun _ => True) (okp := fun _ => True) ?hr ?hp (fun _ hk => hk) trivial (Below.refl _ _) (Nat.le_refl _) (by simp) ?_; (case hd => rfl); (case hg => (first | rfl | exact wanted_on rfl rfl rfl (e11.trans (by first | rfl | (simp [*]; done))) | exact wanted_on rfl rfl rfl (e21.trans (by first | rfl | (simp [*]; done))) | exact wanted_on rfl rfl rfl (e25.trans (by first | rfl | (simp [*]; done))) | exact wanted_on rfl rfl rfl (e30.trans (by first | rfl | (simp [*]; done))) | exact wanted_on rfl rfl rfl (e36.trans (by first | rfl | (simp [*]; done))) | exact wanted_on rfl rfl rfl (e42.trans (by first | rfl | (simp [*]; done))))); (case hr => first | (go_simp; done) | (go_simp; rfl)); (case hp => exact (Reps.c2 (show Kd.M k42 _ _ _ (⟨false, 5⟩ : S42) [.bool false, .int .i64 5] from (k42_mkM _ _ _ (⟨false, 5⟩ : S42) )) (Reps.none _ _)))
         intro v377 w21 ho22 hb hg_ hnew_
         clear hg_ hnew_
         (first | rw [← Ny376.out] at ho22 | (simp only [Int.reduceToNat] at ho22; rw [← Ny376.out] at ho22))
         have n0_ := Aside0.mk (Kd.R_lower ho22 (below_size (by repeat (first | (with_reducible first | exact HB.out | apply below_alloc | apply pw_below_drewN | apply below_drew1 | refine below_set ?_ GE375.out) | exact HB.out))))
         have n1_ := Aside0.mk (blk_below (by (with_reducible repeat (first | refine blk_drewN ?_ _ | refine blk_drew ?_ | refine blk_alloc ?_ _)); exact BK375.out) hb)
         have n2_ := Aside0.mk (below_step (by repeat (first | (with_reducible first | exact HB.out | apply below_alloc | apply pw_below_drewN | apply below_drew1 | refine below_set ?_ GE375.out) | exact HB.out)) hb)
         have z_HO381 := fun (h0_ : b 4 = true) (h1_ : b 5 = false) => (show Kd.R k42 42 w21 w.heap.size (fun _ => True) v380 y379 from by first | exact (Kd.R_elder' (by (with_reducible repeat (first | apply Kd.R_alloc | apply Kd.R_drewN | apply Kd.R_drew)); exact (Q_HO381 h0_ h1_)) (Kd.R_base ho22) hb) | exact Kd.R_mono (Kd.R_elder' (by (with_reducible repeat (first | apply Kd.R_alloc | apply Kd.R_drewN | apply Kd.R_drew)); exact (Q_HO381 h0_ h1_)) (Kd.R_base ho22) hb) (fun _ h_ => by first | trivial | exact h_ | exact h_.1))
         clear BK375
         clear HB
         have HO378 := n0_
         have BK375 := n1_
         have HB := n2_
         clear n0_ n1_ n2_
         clear hb ho22
         refine hK.out _ _ ⟨v377, v380, v383, v387, v390, v393, v399, v415, m36_, (by rw [ha.out]; exact putSel_upk 2 hb_ rfl rfl rfl), (by (with_reducible repeat (first | refine blk_drewN ?_ _ | refine blk_drew ?_ | refine blk_alloc ?_ _)); exact BK375.out), (by repeat (first | (with_reducible first | exact HB.out | apply below_alloc | apply pw_below_drewN | apply below_drew1 | refine below_set ?_ GE375.out) | exact HB.out)), fun _ _ => (by (with_reducible repeat (first | apply Kd.R_alloc | apply Kd.R_drewN | apply Kd.R_drew)); exact HO378.out), z_HO381, fun h0_ => absurd ((hoff 5 (by kernel_rfl)).symm.trans h0_) (by decide), fun h0_ _ => absurd ((hoff 11 (by kernel_rfl)).symm.trans h0_) (by decide), fun h0_ _ => absurd ((hoff 13 (by kernel_rfl)).symm.trans h0_) (by decide), fun h0_ => absurd ((hoff 14 (by kernel_rfl)).symm.trans h0_) (by decide), fun h0_ => absurd ((hoff 29 (by kernel_rfl)).symm.trans h0_) (by decide), fun h0_ => absurd ((hoff 36 (by kernel_rfl)).symm.trans h0_) (by decide), fun h0_ => absurd ((hoff 36 (by kernel_rfl)).symm.trans h0_) (by decide)⟩
        refine steps_cons ?_ ?_
        ·rintro b a w' ⟨v377, v380, v383, v387, v390, v393, v399, v415, m36_, ha, Q_BK375, Q_HB, Q_HO378, Q_HO381, Q_HO384, Q_HO388, Q_HO391, Q_HO394, Q_HO400, Q_HO416, Q_X36_⟩ hb_ hon hoff
         refine ⟨_, rfl, fun K hK => ?_⟩
         replace ha := Aside0.mk ha
         have BK375 := Aside0.mk Q_BK375
         have HB := Aside0.mk Q_HB
         refine value_ (w1 := w') (v := .agg #[.bool true, .int .i64 0]) (by rfl) rfl ?_ ?_
         ·go_simp
          (try simp only [i64_w])
          try rfl
         refine hK.out _ _ ⟨v377, v380, v383, v387, v390, v393, v399, v415, m36_, (by rw [ha.out]; exact putSel_upk 3 hb_ rfl rfl rfl), Q_BK375, Q_HB, Q_HO378, fun h0_ _ => absurd ((hoff 4 (by kernel_rfl)).symm.trans h0_) (by decide), fun h0_ => absurd ((hoff 5 (by kernel_rfl)).symm.trans h0_) (by decide), fun h0_ _ => absurd ((hoff 11 (by kernel_rfl)).symm.trans h0_) (by decide), fun h0_ _ => absurd ((hoff 13 (by kernel_rfl)).symm.trans h0_) (by decide), fun h0_ => absurd ((hoff 14 (by kernel_rfl)).symm.trans h0_) (by decide), fun h0_ => absurd ((hoff 29 (by kernel_rfl)).symm.trans h0_) (by decide), fun h0_ => absurd ((hoff 36 (by kernel_rfl)).symm.trans h0_) (by decide), fun h0_ => absurd ((hoff 36 (by kernel_rfl)).symm.trans h0_) (by decide)⟩
        refine steps_cons ?_ ?_
        ·rintro b a w' ⟨v377, v380, v383, v387, v390, v393, v399, v415, m36_, ha, Q_BK375, Q_HB, Q_HO378, Q_HO381, Q_HO384, Q_HO388, Q_HO391, Q_HO394, Q_HO400, Q_HO416, Q_X36_⟩ hb_ hon hoff
         refine ⟨_, rfl, fun K hK => ?_⟩
         have e6 : a.tmps[6]? = some (.agg #[.bool true, .int .i64 0]) := by rw [ha]; exact putSel_on (e := (3, 6, .agg #[.bool true, .int .i64 0])) 3 rfl rfl (hon 3 (by kernel_rfl)) rfl
         replace ha := Aside0.mk ha
         have BK375 := Aside0.mk Q_BK375
         have HB := Aside0.mk Q_HB
         refine Kd.R_lit_step k42 _ 42 ?hg (N := 7) ?hd (xs := ([(⟨true, 0⟩ : S42)] : List (S42))) (inner := [.bool true, .int .i64 0]) (ok := fun _ => True) (okp := fun _ => True) ?hr ?hp (fun _ hk => hk) trivial (Below.refl _ _) (Nat.le_refl _) (by simp) ?_; (case hd => rfl); (case hg => (first | rfl | exact wanted_on rfl rfl rfl (e11.trans (by first | rfl | (simp [*]; done))) | exact wanted_on rfl rfl rfl (e21.trans (by first | rfl | (simp [*]; done))) | exact wanted_on rfl rfl rfl (e25.trans (by first | rfl | (simp [*]; done))) | exact wanted_on rfl rfl rfl (e30.trans (by first | rfl | (simp [*]; done))) | exact wanted_on rfl rfl rfl (e36.trans (by first | rfl | (simp [*]; done))) | exact wanted_on rfl rfl rfl (e42.trans (by first | rfl | (simp [*]; done))))); (case hr => first | (go_simp; done) | (go_simp; rfl)); (case hp => exact (Reps.c2 (show Kd.M k42 _ _ _ (⟨true, 0⟩ : S42) [.bool true, .int .i64 0] from (k42_mkM _ _ _ (⟨true, 0⟩ : S42) )) (Reps.none _ _)))
         intro v380 w21 ho22 hb hg_ hnew_
         clear hg_ hnew_
         (first | rw [← Ny379.out] at ho22 | (simp only [Int.reduceToNat] at ho22; rw [← Ny379.out] at ho22))
         have n0_ := Aside0.mk (Kd.R_lower ho22 (below_size (by repeat (first | (with_reducible first | exact HB.out | apply below_alloc | apply pw_below_drewN | apply below_drew1 | refine below_set ?_ GE375.out) | exact HB.out))))
         have n1_ := Aside0.mk (blk_below (by (with_reducible repeat (first | refine blk_drewN ?_ _ | refine blk_drew ?_ | refine blk_alloc ?_ _)); exact BK375.out) hb)
         have n2_ := Aside0.mk (below_step (by repeat (first | (with_reducible first | exact HB.out | apply below_alloc | apply pw_below_drewN | apply below_drew1 | refine below_set ?_ GE375.out) | exact HB.out)) hb)
         have z_HO378 := fun (h0_ : b 2 = true) (h1_ : b 5 = false) => (show Kd.R k42 42 w21 w.heap.size (fun _ => True) v377 y376 from by first | exact (Kd.R_elder' (by (with_reducible repeat (first | apply Kd.R_alloc | apply Kd.R_drewN | apply Kd.R_drew)); exact (Q_HO378 h0_ h1_)) (Kd.R_base ho22) hb) | exact Kd.R_mono (Kd.R_elder' (by (with_reducible repeat (first | apply Kd.R_alloc | apply Kd.R_drewN | apply Kd.R_drew)); exact (Q_HO378 h0_ h1_)) (Kd.R_base ho22) hb) (fun _ h_ => by first | trivial | exact h_ | exact h_.1))
         clear BK375
         clear HB
         have HO381 := n0_
         have BK375 := n1_
         have HB := n2_
         clear n0_ n1_ n2_
         clear hb ho22
         refine hK.out _ _ ⟨v377, v380, v383, v387, v390, v393, v399, v415, m36_, (by rw [ha.out]; exact putSel_upk 4 hb_ rfl rfl rfl), (by (with_reducible repeat (first | refine blk_drewN ?_ _ | refine blk_drew ?_ | refine blk_alloc ?_ _)); exact BK375.out), (by repeat (first | (with_reducible first | exact HB.out | apply below_alloc | apply pw_below_drewN | apply below_drew1 | refine below_set ?_ GE375.out) | exact HB.out)), z_HO378, fun _ _ => (by (with_reducible repeat (first | apply Kd.R_alloc | apply Kd.R_drewN | apply Kd.R_drew)); exact HO381.out), fun h0_ => absurd ((hoff 5 (by kernel_rfl)).symm.trans h0_) (by decide), fun h0_ _ => absurd ((hoff 11 (by kernel_rfl)).symm.trans h0_) (by decide), fun h0_ _ => absurd ((hoff 13 (by kernel_rfl)).symm.trans h0_) (by decide), fun h0_ => absurd ((hoff 14 (by kernel_rfl)).symm.trans h0_) (by decide), fun h0_ => absurd ((hoff 29 (by kernel_rfl)).symm.trans h0_) (by decide), fun h0_ => absurd ((hoff 36 (by kernel_rfl)).symm.trans h0_) (by decide), fun h0_ => absurd ((hoff 36 (by kernel_rfl)).symm.trans h0_) (by decide)⟩
        refine steps_cons ?_ ?_
        ·rintro b a w' ⟨v377, v380, v383, v387, v390, v393, v399, v415, m36_, ha, Q_BK375, Q_HB, Q_HO378, Q_HO381, Q_HO384, Q_HO388, Q_HO391, Q_HO394, Q_HO400, Q_HO416, Q_X36_⟩ hb_ hon hoff
         refine ⟨_, rfl, fun K hK => ?_⟩
         have e5 : a.tmps[5]? = some (v377) := by rw [ha]; exact putSel_on (e := (2, 5, v377)) 2 rfl rfl (hon 2 (by kernel_rfl)) rfl
         have e7 : a.tmps[7]? = some (v380) := by rw [ha]; exact putSel_on (e := (4, 7, v380)) 4 rfl rfl (hon 4 (by kernel_rfl)) rfl
         replace ha := Aside0.mk ha
         have BK375 := Aside0.mk Q_BK375
         have HB := Aside0.mk Q_HB
         have HO378 := Aside0.mk (Q_HO378 (hon 2 (by kernel_rfl)) hb_)
         have HO381 := Aside0.mk (Q_HO381 (hon 4 (by kernel_rfl)) hb_)
         obtain ⟨Ao26, co26, eo26⟩ := Kd.R_slice HO378.out
         (first | subst eo26 | (injection eo26 with f1_ f2_ f3_; have f4_ := f1_.symm; have f5_ := f3_.symm; clear f1_ f2_ f3_; subst f4_; subst f5_))
         obtain ⟨Ao27, co27, eo27⟩ := Kd.R_slice HO381.out
         (first | subst eo27 | (injection eo27 with f1_ f2_ f3_; have f4_ := f1_.symm; have f5_ := f3_.symm; clear f1_ f2_ f3_; subst f4_; subst f5_))
         refine Kd.N_lit_step (Kd.slice 42 k42) _ 53 ?hg (N' := 8) ?hd (xs := ([y376, y379] : List (List (S42)))) (inner := [.slice Ao26 y376.length co26, .slice Ao27 y379.length co27]) (ok := (fun k_ => k_ ≠ gb375)) (okp := (fun k_ => k_ ≠ gb375)) ?hr ?hp (fun _ hk => hk) ((show ∀ k_, (_ : World).heap.size ≤ k_ → (fun k_ => k_ ≠ gb375) k_ from fun k_ hk => Kd.freshB (g := gb375) (o := .cells #[.int .i64 2, .int .i64 0, .int .i64 1, .int .i64 1, .int .i64 0, .int .i64 0, .bool false, .int .i64 0, .int .i64 1, .int .i64 1, .int .i64 0, .bool false, .int .i64 0, .slice none 0 0] 46 (0, 0)) (by (with_reducible repeat (first | refine blk_drewN ?_ _ | refine blk_drew ?_ | refine blk_alloc ?_ _)); exact BK375.out) k_ hk) _ (Nat.le_refl _)) (Below.refl _ _) (Nat.le_refl _) (by simp) ?_; (case hd => rfl); (case hg => (first | rfl | exact wanted_on rfl rfl rfl (e11.trans (by first | rfl | (simp [*]; done))) | exact wanted_on rfl rfl rfl (e21.trans (by first | rfl | (simp [*]; done))) | exact wanted_on rfl rfl rfl (e25.trans (by first | rfl | (simp [*]; done))) | exact wanted_on rfl rfl rfl (e30.trans (by first | rfl | (simp [*]; done))) | exact wanted_on rfl rfl rfl (e36.trans (by first | rfl | (simp [*]; done))) | exact wanted_on rfl rfl rfl (e42.trans (by first | rfl | (simp [*]; done))))); (case hr => first | (go_simp; done) | (go_simp; rfl)); (case hp => exact (Reps.one (show Kd.FK (Kd.slice 42 k42) _ _ y376 [.slice Ao26 y376.length co26] from (Kd.FK_slice_mk (Kd.R_reads' (Kd.R_mono (ok' := (fun k_ => k_ ≠ gb375)) (Kd.R_types (HO378.out) BK375.out (by decide)) (fun k_ hk => hk.2))).2.1 (Kd.R_F (Kd.R_mono (ok' := (fun k_ => k_ ≠ gb375)) (Kd.R_types (HO378.out) BK375.out (by decide)) (fun k_ hk => hk.2))))) (Reps.one (show Kd.FK (Kd.slice 42 k42) _ _ y379 [.slice Ao27 y379.length co27] from (Kd.FK_slice_mk (Kd.R_reads' (Kd.R_mono (ok' := (fun k_ => k_ ≠ gb375)) (Kd.R_types (HO381.out) BK375.out (by decide)) (fun k_ hk => hk.2))).2.1 (Kd.R_F (Kd.R_mono (ok' := (fun k_ => k_ ≠ gb375)) (Kd.R_types (HO381.out) BK375.out (by decide)) (fun k_ hk => hk.2))))) (Reps.none _ _))))
         intro v383 w28 ho29 hb hg_ hnew_
         clear hg_ hnew_
         (first | rw [← Ny382.out] at ho29 | (simp only [Int.reduceToNat] at ho29; rw [← Ny382.out] at ho29))
         have n0_ := Aside0.mk (Kd.N_lower ho29 (below_size (by repeat (first | (with_reducible first | exact HB.out | apply below_alloc | apply pw_below_drewN | apply below_drew1 | refine below_set ?_ GE375.out) | exact HB.out))))
         have n1_ := Aside0.mk (blk_below (by (with_reducible repeat (first | refine blk_drewN ?_ _ | refine blk_drew ?_ | refine blk_alloc ?_ _)); exact BK375.out) hb)
         have n2_ := Aside0.mk (below_step (by repeat (first | (with_reducible first | exact HB.out | apply below_alloc | apply pw_below_drewN | apply below_drew1 | refine below_set ?_ GE375.out) | exact HB.out)) hb)
         clear BK375
         clear HB
         clear HO378
         clear HO381
         have HO384 := n0_
         have BK375 := n1_
         have HB := n2_
         clear n0_ n1_ n2_
         clear hb ho29
         refine hK.out _ _ ⟨.slice Ao26 y376.length co26, .slice Ao27 y379.length co27, v383, v387, v390, v393, v399, v415, m36_, (by rw [ha.out]; exact putSel_upk 5 hb_ rfl rfl rfl), (by (with_reducible repeat (first | refine blk_drewN ?_ _ | refine blk_drew ?_ | refine blk_alloc ?_ _)); exact BK375.out), (by repeat (first | (with_reducible first | exact HB.out | apply below_alloc | apply pw_below_drewN | apply below_drew1 | refine below_set ?_ GE375.out) | exact HB.out)), fun _ h1_ => absurd ((up_self b 5).symm.trans h1_) (by decide), fun _ h1_ => absurd ((up_self b 5).symm.trans h1_) (by decide), fun _ => (by (with_reducible repeat (first | apply Kd.N_alloc | apply Kd.N_drewN | apply Kd.N_drew)); first | exact HO384.out | exact Kd.N_mono HO384.out (fun _ hk => by first | exact hk.1 | exact hk.2 | exact hk.2.2 | exact hk.1.2 | exact hk.1.2.2 | exact hk.2.1 | exact hk.2.2.2)), fun h0_ _ => absurd ((hoff 11 (by kernel_rfl)).symm.trans h0_) (by decide), fun h0_ _ => absurd ((hoff 13 (by kernel_rfl)).symm.trans h0_) (by decide), fun h0_ => absurd ((hoff 14 (by kernel_rfl)).symm.trans h0_) (by decide), fun h0_ => absurd ((hoff 29 (by kernel_rfl)).symm.trans h0_) (by decide), fun h0_ => absurd ((hoff 36 (by kernel_rfl)).symm.trans h0_) (by decide), fun h0_ => absurd ((hoff 36 (by kernel_rfl)).symm.trans h0_) (by decide)⟩
        refine steps_cons ?_ ?_
        ·rintro b a w' ⟨v377, v380, v383, v387, v390, v393, v399, v415, m36_, ha, Q_BK375, Q_HB, Q_HO378, Q_HO381, Q_HO384, Q_HO388, Q_HO391, Q_HO394, Q_HO400, Q_HO416, Q_X36_⟩ hb_ hon hoff
         refine ⟨_, rfl, fun K hK => ?_⟩
         have e3 : a.tmps[3]? = some (.agg #[.int .i64 2, .int .i64 0, .int .i64 1, .int .i64 1, .int .i64 0, .int .i64 0, .bool false, .int .i64 0, .int .i64 1, .int .i64 1, .int .i64 0, .bool false, .int .i64 0, .slice none 0 0]) := by rw [ha]; exact putSel_on (e := (0, 3, .agg #[.int .i64 2, .int .i64 0, .int .i64 1, .int .i64 1, .int .i64 0, .int .i64 0, .bool false, .int .i64 0, .int .i64 1, .int .i64 1, .int .i64 0, .bool false, .int .i64 0, .slice none 0 0])) 0 rfl rfl (hon 0 (by kernel_rfl)) rfl
         have e8 : a.tmps[8]? = some (v383) := by rw [ha]; exact putSel_on (e := (5, 8, v383)) 5 rfl rfl (hon 5 (by kernel_rfl)) rfl
         replace ha := Aside0.mk ha
         have BK375 := Aside0.mk Q_BK375
         have HB := Aside0.mk Q_HB
         have HO384 := Aside0.mk (Q_HO384 (hon 5 (by kernel_rfl)))
         obtain ⟨Ao30, co30, eo30⟩ := Kd.N_slice HO384.out
         (first | subst eo30 | (injection eo30 with f1_ f2_ f3_; have f4_ := f1_.symm; have f5_ := f3_.symm; clear f1_ f2_ f3_; subst f4_; subst f5_))
         refine goes_ Try.func31 (by kernel_rfl) rfl #[.agg #[.int .i64 2, .int .i64 0, .int .i64 1, .int .i64 1, .int .i64 0, .int .i64 0, .bool false, .int .i64 0, .int .i64 1, .int .i64 1, .int .i64 0, .bool false, .int .i64 0, .slice none 0 0], .slice Ao30 y382.length co30] (by (first | rfl | exact wanted_on rfl rfl rfl (e11.trans (by first | rfl | (simp [*]; done))) | exact wanted_on rfl rfl rfl (e21.trans (by first | rfl | (simp [*]; done))) | exact wanted_on rfl rfl rfl (e25.trans (by first | rfl | (simp [*]; done))) | exact wanted_on rfl rfl rfl (e30.trans (by first | rfl | (simp [*]; done))) | exact wanted_on rfl rfl rfl (e36.trans (by first | rfl | (simp [*]; done))) | exact wanted_on rfl rfl rfl (e42.trans (by first | rfl | (simp [*]; done))))) rfl rfl (by first | (simp only [List.map_toArray, List.map_cons, List.map_nil, Act.eval, Array.getD_eq_getD_getElem?, Option.getD_some, e3, e8]; done) | (simp only [List.map_toArray, List.map_cons, List.map_nil, Act.eval, Array.getD_eq_getD_getElem?, Option.getD_some, e3, e8]; rfl)) ?_
         refine (pred_Of.calls k 2 0 1 1 0 0 false 0 1 1 0 false 0 _ _ ([] : List (S46)) _ _ y382 t385 _ ?side1 ?side2 ?side3 ?side4 A2.out).mono ?_
         (case side1 => exact Kd.C_nil _ _)
         (case side2 => exact Nat.le_refl _)
         (case side3 => repeat (first | exact (Kd.N_reads' HO384.out).2.2 | (with_reducible refine Kd.C_alloc ?_ _) | (with_reducible refine Kd.C_drewN ?_ _) | (with_reducible refine Kd.C_drew ?_)))
         (case side4 => exact (Kd.N_reads' HO384.out).2.1)
         rintro e w31 ⟨rfl, hb⟩
         refine ⟨_, rfl, ?_⟩
         have n0_ := Aside0.mk (Kd.N_below (by (with_reducible repeat (first | apply Kd.N_alloc | apply Kd.N_drewN | apply Kd.N_drew)); exact HO384.out) hb)
         have n1_ := Aside0.mk (blk_below (by (with_reducible repeat (first | refine blk_drewN ?_ _ | refine blk_drew ?_ | refine blk_alloc ?_ _)); exact BK375.out) hb)
         have n2_ := Aside0.mk (below_step (by repeat (first | (with_reducible first | exact HB.out | apply below_alloc | apply pw_below_drewN | apply below_drew1 | refine below_set ?_ GE375.out) | exact HB.out)) hb)
         clear HO384
         clear BK375
         clear HB
         have HO384 := n0_
         have BK375 := n1_
         have HB := n2_
         clear n0_ n1_ n2_
         (try clear hb)
         (try clear hb2)
         (try clear hk)
         (try clear hi)
         refine hK.out _ _ ⟨v377, v380, .slice Ao30 y382.length co30, v387, v390, v393, v399, v415, m36_, (by rw [ha.out]; exact putSel_upk 6 hb_ rfl rfl rfl), (by (with_reducible repeat (first | refine blk_drewN ?_ _ | refine blk_drew ?_ | refine blk_alloc ?_ _)); exact BK375.out), (by repeat (first | (with_reducible first | exact HB.out | apply below_alloc | apply pw_below_drewN | apply below_drew1 | refine below_set ?_ GE375.out) | exact HB.out)), fun _ h1_ => absurd ((hon 5 (by kernel_rfl)).symm.trans h1_) (by decide), fun _ h1_ => absurd ((hon 5 (by kernel_rfl)).symm.trans h1_) (by decide), fun _ => (by (with_reducible repeat (first | apply Kd.N_alloc | apply Kd.N_drewN | apply Kd.N_drew)); first | exact HO384.out | exact Kd.N_mono HO384.out (fun _ hk => by first | exact hk.1 | exact hk.2 | exact hk.2.2 | exact hk.1.2 | exact hk.1.2.2 | exact hk.2.1 | exact hk.2.2.2)), fun h0_ _ => absurd ((hoff 11 (by kernel_rfl)).symm.trans h0_) (by decide), fun h0_ _ => absurd ((hoff 13 (by kernel_rfl)).symm.trans h0_) (by decide), fun h0_ => absurd ((hoff 14 (by kernel_rfl)).symm.trans h0_) (by decide), fun h0_ => absurd ((hoff 29 (by kernel_rfl)).symm.trans h0_) (by decide), fun h0_ => absurd ((hoff 36 (by kernel_rfl)).symm.trans h0_) (by decide), fun h0_ => absurd ((hoff 36 (by kernel_rfl)).symm.trans h0_) (by decide)⟩
        refine steps_cons ?_ ?_
        ·rintro b a w' ⟨v377, v380, v383, v387, v390, v393, v399, v415, m36_, ha, Q_BK375, Q_HB, Q_HO378, Q_HO381, Q_HO384, Q_HO388, Q_HO391, Q_HO394, Q_HO400, Q_HO416, Q_X36_⟩ hb_ hon hoff
         refine ⟨_, rfl, fun K hK => ?_⟩
         have e9 : a.tmps[9]? = some (.int .i64 t385) := by rw [ha]; exact putSel_on (e := (6, 9, .int .i64 t385)) 6 rfl rfl (hon 6 (by kernel_rfl)) rfl
         replace ha := Aside0.mk ha
         have BK375 := Aside0.mk Q_BK375
         have HB := Aside0.mk Q_HB
         have HO384 := Aside0.mk (Q_HO384 (hon 5 (by kernel_rfl)))
         refine value_ (w1 := w') (v := .bool (t385 == 1)) (by rfl) rfl ?_ ?_
         ·go_simp
          (try simp only [i64_w])
          try rfl
         refine hK.out _ _ ⟨v377, v380, v383, v387, v390, v393, v399, v415, m36_, (by rw [ha.out]; exact putSel_upk 7 hb_ rfl rfl rfl), Q_BK375, Q_HB, fun _ h1_ => absurd ((hon 5 (by kernel_rfl)).symm.trans h1_) (by decide), fun _ h1_ => absurd ((hon 5 (by kernel_rfl)).symm.trans h1_) (by decide), Q_HO384, fun h0_ _ => absurd ((hoff 11 (by kernel_rfl)).symm.trans h0_) (by decide), fun h0_ _ => absurd ((hoff 13 (by kernel_rfl)).symm.trans h0_) (by decide), fun h0_ => absurd ((hoff 14 (by kernel_rfl)).symm.trans h0_) (by decide), fun h0_ => absurd ((hoff 29 (by kernel_rfl)).symm.trans h0_) (by decide), fun h0_ => absurd ((hoff 36 (by kernel_rfl)).symm.trans h0_) (by decide), fun h0_ => absurd ((hoff 36 (by kernel_rfl)).symm.trans h0_) (by decide)⟩
        refine steps_cons ?_ ?_
        ·rintro b a w' ⟨v377, v380, v383, v387, v390, v393, v399, v415, m36_, ha, Q_BK375, Q_HB, Q_HO378, Q_HO381, Q_HO384, Q_HO388, Q_HO391, Q_HO394, Q_HO400, Q_HO416, Q_X36_⟩ hb_ hon hoff
         refine ⟨_, rfl, fun K hK => ?_⟩
         have e10 : a.tmps[10]? = some (.bool (t385 == 1)) := by rw [ha]; exact putSel_on (e := (7, 10, .bool (t385 == 1))) 7 rfl rfl (hon 7 (by kernel_rfl)) rfl
         replace ha := Aside0.mk ha
         have BK375 := Aside0.mk Q_BK375
         have HB := Aside0.mk Q_HB
         have HO384 := Aside0.mk (Q_HO384 (hon 5 (by kernel_rfl)))
         refine value_ (w1 := w') (v := .bool (t385 == 1)) (by rfl) rfl ?_ ?_
         ·go_simp
          (try simp only [i64_w])
          try rfl
         refine hK.out _ _ ⟨v377, v380, v383, v387, v390, v393, v399, v415, m36_, (by rw [ha.out]; exact putSel_upk 8 hb_ rfl rfl rfl), Q_BK375, Q_HB, fun _ h1_ => absurd ((hon 5 (by kernel_rfl)).symm.trans h1_) (by decide), fun _ h1_ => absurd ((hon 5 (by kernel_rfl)).symm.trans h1_) (by decide), Q_HO384, fun h0_ _ => absurd ((hoff 11 (by kernel_rfl)).symm.trans h0_) (by decide), fun h0_ _ => absurd ((hoff 13 (by kernel_rfl)).symm.trans h0_) (by decide), fun h0_ => absurd ((hoff 14 (by kernel_rfl)).symm.trans h0_) (by decide), fun h0_ => absurd ((hoff 29 (by kernel_rfl)).symm.trans h0_) (by decide), fun h0_ => absurd ((hoff 36 (by kernel_rfl)).symm.trans h0_) (by decide), fun h0_ => absurd ((hoff 36 (by kernel_rfl)).symm.trans h0_) (by decide)⟩
        refine steps_cons ?_ ?_
        ·rintro b a w' ⟨v377, v380, v383, v387, v390, v393, v399, v415, m36_, ha, Q_BK375, Q_HB, Q_HO378, Q_HO381, Q_HO384, Q_HO388, Q_HO391, Q_HO394, Q_HO400, Q_HO416, Q_X36_⟩ hb_ hon hoff
         refine ⟨_, rfl, fun K hK => ?_⟩
         have e1 : a.tmps[1]? = some (.pointer (some ⟨gb375, 0, none⟩)) := by rw [ha]; exact (putSel_off rfl).trans rfl
         have e11 : a.tmps[11]? = some (.bool (t385 == 1)) := by rw [ha]; exact putSel_on (e := (8, 11, .bool (t385 == 1))) 8 rfl rfl (hon 8 (by kernel_rfl)) rfl
         replace ha := Aside0.mk ha
         have BK375 := Aside0.mk Q_BK375
         have HB := Aside0.mk Q_HB
         have HO384 := Aside0.mk (Q_HO384 (hon 5 (by kernel_rfl)))
         have hc0_ : w'.cell? ⟨gb375, 0, none⟩ = some (.int .i64 2) := (blk_cell BK375.out 0).trans rfl
         have hc1_ : w'.cell? ⟨gb375, 1, none⟩ = some (.int .i64 0) := (blk_cell BK375.out 1).trans rfl
         have hc2_ : w'.cell? ⟨gb375, 2, none⟩ = some (.int .i64 1) := (blk_cell BK375.out 2).trans rfl
         have hc3_ : w'.cell? ⟨gb375, 3, none⟩ = some (.int .i64 1) := (blk_cell BK375.out 3).trans rfl
         have hc4_ : w'.cell? ⟨gb375, 4, none⟩ = some (.int .i64 0) := (blk_cell BK375.out 4).trans rfl
         have hc5_ : w'.cell? ⟨gb375, 5, none⟩ = some (.int .i64 0) := (blk_cell BK375.out 5).trans rfl
         have hc6_ : w'.cell? ⟨gb375, 6, none⟩ = some (.bool false) := (blk_cell BK375.out 6).trans rfl
         have hc7_ : w'.cell? ⟨gb375, 7, none⟩ = some (.int .i64 0) := (blk_cell BK375.out 7).trans rfl
         have hc8_ : w'.cell? ⟨gb375, 8, none⟩ = some (.int .i64 1) := (blk_cell BK375.out 8).trans rfl
         have hc9_ : w'.cell? ⟨gb375, 9, none⟩ = some (.int .i64 1) := (blk_cell BK375.out 9).trans rfl
         have hc10_ : w'.cell? ⟨gb375, 10, none⟩ = some (.int .i64 0) := (blk_cell BK375.out 10).trans rfl
         have hc11_ : w'.cell? ⟨gb375, 11, none⟩ = some (.bool false) := (blk_cell BK375.out 11).trans rfl
         have hc12_ : w'.cell? ⟨gb375, 12, none⟩ = some (.int .i64 0) := (blk_cell BK375.out 12).trans rfl
         have hc13_ : w'.cell? ⟨gb375, 13, none⟩ = some (.slice none 0 0) := (blk_cell BK375.out 13).trans rfl
         refine value_ (w1 := w') (v := .agg #[.int .i64 2, .int .i64 0, .int .i64 1, .int .i64 1, .int .i64 0, .int .i64 0, .bool false, .int .i64 0, .int .i64 1, .int .i64 1, .int .i64 0, .bool false, .int .i64 0, .slice none 0 0]) (wanted_on rfl rfl rfl (e11.trans (by first | rfl | (simp [*]; done)))) rfl ?_ ?_
         ·go_simp
          (try simp only [i64_w])
          try rfl
         refine hK.out _ _ ⟨v377, v380, v383, v387, v390, v393, v399, v415, m36_, (by rw [ha.out]; exact putSel_upk 9 hb_ rfl rfl rfl), Q_BK375, Q_HB, fun _ h1_ => absurd ((hon 5 (by kernel_rfl)).symm.trans h1_) (by decide), fun _ h1_ => absurd ((hon 5 (by kernel_rfl)).symm.trans h1_) (by decide), Q_HO384, Q_HO388, Q_HO391, Q_HO394, fun h0_ => absurd ((hoff 29 (by kernel_rfl)).symm.trans h0_) (by decide), fun h0_ => absurd ((hoff 36 (by kernel_rfl)).symm.trans h0_) (by decide), fun h0_ => absurd ((hoff 36 (by kernel_rfl)).symm.trans h0_) (by decide)⟩
        refine steps_cons ?_ ?_
        ·rintro b a w' ⟨v377, v380, v383, v387, v390, v393, v399, v415, m36_, ha, Q_BK375, Q_HB, Q_HO378, Q_HO381, Q_HO384, Q_HO388, Q_HO391, Q_HO394, Q_HO400, Q_HO416, Q_X36_⟩ hb_ hon hoff
         refine ⟨_, rfl, fun K hK => ?_⟩
         have e11 : a.tmps[11]? = some (.bool (t385 == 1)) := by rw [ha]; exact putSel_on (e := (8, 11, .bool (t385 == 1))) 8 rfl rfl (hon 8 (by kernel_rfl)) rfl
         replace ha := Aside0.mk ha
         have BK375 := Aside0.mk Q_BK375
         have HB := Aside0.mk Q_HB
         have HO384 := Aside0.mk (Q_HO384 (hon 5 (by kernel_rfl)))
         refine value_ (w1 := w') (v := .agg #[.bool false, .int .i64 5]) (wanted_on rfl rfl rfl (e11.trans (by first | rfl | (simp [*]; done)))) rfl ?_ ?_
         ·go_simp
          (try simp only [i64_w])
          try rfl
         refine hK.out _ _ ⟨v377, v380, v383, v387, v390, v393, v399, v415, m36_, (by rw [ha.out]; exact putSel_upk 10 hb_ rfl rfl rfl), Q_BK375, Q_HB, fun _ h1_ => absurd ((hon 5 (by kernel_rfl)).symm.trans h1_) (by decide), fun _ h1_ => absurd ((hon 5 (by kernel_rfl)).symm.trans h1_) (by decide), Q_HO384, fun h0_ _ => absurd ((hoff 11 (by kernel_rfl)).symm.trans h0_) (by decide), Q_HO391, fun h0_ => absurd ((hoff 14 (by kernel_rfl)).symm.trans h0_) (by decide), fun h0_ => absurd ((hoff 29 (by kernel_rfl)).symm.trans h0_) (by decide), fun h0_ => absurd ((hoff 36 (by kernel_rfl)).symm.trans h0_) (by decide), fun h0_ => absurd ((hoff 36 (by kernel_rfl)).symm.trans h0_) (by decide)⟩
        refine steps_cons ?_ ?_
        ·rintro b a w' ⟨v377, v380, v383, v387, v390, v393, v399, v415, m36_, ha, Q_BK375, Q_HB, Q_HO378, Q_HO381, Q_HO384, Q_HO388, Q_HO391, Q_HO394, Q_HO400, Q_HO416, Q_X36_⟩ hb_ hon hoff
         refine ⟨_, rfl, fun K hK => ?_⟩
         have e13 : a.tmps[13]? = some (.agg #[.bool false, .int .i64 5]) := by rw [ha]; exact putSel_on (e := (10, 13, .agg #[.bool false, .int .i64 5])) 10 rfl rfl (hon 10 (by kernel_rfl)) rfl
         have e11 : a.tmps[11]? = some (.bool (t385 == 1)) := by rw [ha]; exact putSel_on (e := (8, 11, .bool (t385 == 1))) 8 rfl rfl (hon 8 (by kernel_rfl)) rfl
         replace ha := Aside0.mk ha
         have BK375 := Aside0.mk Q_BK375
         have HB := Aside0.mk Q_HB
         have HO384 := Aside0.mk (Q_HO384 (hon 5 (by kernel_rfl)))
         refine Kd.R_lit_step k42 _ 42 ?hg (N := 14) ?hd (xs := ([(⟨false, 5⟩ : S42)] : List (S42))) (inner := [.bool false, .int .i64 5]) (ok := fun _ => True) (okp := fun _ => True) ?hr ?hp (fun _ hk => hk) trivial (Below.refl _ _) (Nat.le_refl _) (by simp) ?_; (case hd => rfl); (case hg => (first | rfl | exact wanted_on rfl rfl rfl (e11.trans (by first | rfl | (simp [*]; done))) | exact wanted_on rfl rfl rfl (e21.trans (by first | rfl | (simp [*]; done))) | exact wanted_on rfl rfl rfl (e25.trans (by first | rfl | (simp [*]; done))) | exact wanted_on rfl rfl rfl (e30.trans (by first | rfl | (simp [*]; done))) | exact wanted_on rfl rfl rfl (e36.trans (by first | rfl | (simp [*]; done))) | exact wanted_on rfl rfl rfl (e42.trans (by first | rfl | (simp [*]; done))))); (case hr => first | (go_simp; done) | (go_simp; rfl)); (case hp => exact (Reps.c2 (show Kd.M k42 _ _ _ (⟨false, 5⟩ : S42) [.bool false, .int .i64 5] from (k42_mkM _ _ _ (⟨false, 5⟩ : S42) )) (Reps.none _ _)))
         intro v387 w32 ho33 hb hg_ hnew_
         clear hg_ hnew_
         (first | rw [← Ny386.out] at ho33 | (simp only [Int.reduceToNat] at ho33; rw [← Ny386.out] at ho33))
         have n0_ := Aside0.mk (Kd.N_elder' (by (with_reducible repeat (first | apply Kd.N_alloc | apply Kd.N_drewN | apply Kd.N_drew)); exact HO384.out) (Kd.R_base ho33) hb)
         have n1_ := Aside0.mk (Kd.R_lower ho33 (below_size (by repeat (first | (with_reducible first | exact HB.out | apply below_alloc | apply pw_below_drewN | apply below_drew1 | refine below_set ?_ GE375.out) | exact HB.out))))
         have n2_ := Aside0.mk (blk_below (by (with_reducible repeat (first | refine blk_drewN ?_ _ | refine blk_drew ?_ | refine blk_alloc ?_ _)); exact BK375.out) hb)
         have n3_ := Aside0.mk (below_step (by repeat (first | (with_reducible first | exact HB.out | apply below_alloc | apply pw_below_drewN | apply below_drew1 | refine below_set ?_ GE375.out) | exact HB.out)) hb)
         have z_HO391 := fun (h0_ : b 13 = true) (h1_ : b 14 = false) => (show Kd.R k42 42 w32 w.heap.size (fun _ => True) v390 y389 from by first | exact (Kd.R_elder' (by (with_reducible repeat (first | apply Kd.R_alloc | apply Kd.R_drewN | apply Kd.R_drew)); exact (Q_HO391 h0_ h1_)) (Kd.R_base ho33) hb) | exact Kd.R_mono (Kd.R_elder' (by (with_reducible repeat (first | apply Kd.R_alloc | apply Kd.R_drewN | apply Kd.R_drew)); exact (Q_HO391 h0_ h1_)) (Kd.R_base ho33) hb) (fun _ h_ => by first | trivial | exact h_ | exact h_.1))
         clear HO384
         clear BK375
         clear HB
         have HO384 := n0_
         have HO388 := n1_
         have BK375 := n2_
         have HB := n3_
         clear n0_ n1_ n2_ n3_
         clear hb ho33
         refine hK.out _ _ ⟨v377, v380, v383, v387, v390, v393, v399, v415, m36_, (by rw [ha.out]; exact putSel_upk 11 hb_ rfl rfl rfl), (by (with_reducible repeat (first | refine blk_drewN ?_ _ | refine blk_drew ?_ | refine blk_alloc ?_ _)); exact BK375.out), (by repeat (first | (with_reducible first | exact HB.out | apply below_alloc | apply pw_below_drewN | apply below_drew1 | refine below_set ?_ GE375.out) | exact HB.out)), fun _ h1_ => absurd ((hon 5 (by kernel_rfl)).symm.trans h1_) (by decide), fun _ h1_ => absurd ((hon 5 (by kernel_rfl)).symm.trans h1_) (by decide), fun _ => (by (with_reducible repeat (first | apply Kd.N_alloc | apply Kd.N_drewN | apply Kd.N_drew)); first | exact HO384.out | exact Kd.N_mono HO384.out (fun _ hk => by first | exact hk.1 | exact hk.2 | exact hk.2.2 | exact hk.1.2 | exact hk.1.2.2 | exact hk.2.1 | exact hk.2.2.2)), fun _ _ => (by (with_reducible repeat (first | apply Kd.R_alloc | apply Kd.R_drewN | apply Kd.R_drew)); exact HO388.out), z_HO391, fun h0_ => absurd ((hoff 14 (by kernel_rfl)).symm.trans h0_) (by decide), fun h0_ => absurd ((hoff 29 (by kernel_rfl)).symm.trans h0_) (by decide), fun h0_ => absurd ((hoff 36 (by kernel_rfl)).symm.trans h0_) (by decide), fun h0_ => absurd ((hoff 36 (by kernel_rfl)).symm.trans h0_) (by decide)⟩
        refine steps_cons ?_ ?_
        ·rintro b a w' ⟨v377, v380, v383, v387, v390, v393, v399, v415, m36_, ha, Q_BK375, Q_HB, Q_HO378, Q_HO381, Q_HO384, Q_HO388, Q_HO391, Q_HO394, Q_HO400, Q_HO416, Q_X36_⟩ hb_ hon hoff
         refine ⟨_, rfl, fun K hK => ?_⟩
         have e11 : a.tmps[11]? = some (.bool (t385 == 1)) := by rw [ha]; exact putSel_on (e := (8, 11, .bool (t385 == 1))) 8 rfl rfl (hon 8 (by kernel_rfl)) rfl
         replace ha := Aside0.mk ha
         have BK375 := Aside0.mk Q_BK375
         have HB := Aside0.mk Q_HB
         have HO384 := Aside0.mk (Q_HO384 (hon 5 (by kernel_rfl)))
         refine value_ (w1 := w') (v := .agg #[.bool false, .int .i64 5]) (wanted_on rfl rfl rfl (e11.trans (by first | rfl | (simp [*]; done)))) rfl ?_ ?_
         ·go_simp
          (try simp only [i64_w])
          try rfl
         refine hK.out _ _ ⟨v377, v380, v383, v387, v390, v393, v399, v415, m36_, (by rw [ha.out]; exact putSel_upk 12 hb_ rfl rfl rfl), Q_BK375, Q_HB, fun _ h1_ => absurd ((hon 5 (by kernel_rfl)).symm.trans h1_) (by decide), fun _ h1_ => absurd ((hon 5 (by kernel_rfl)).symm.trans h1_) (by decide), Q_HO384, Q_HO388, fun h0_ _ => absurd ((hoff 13 (by kernel_rfl)).symm.trans h0_) (by decide), fun h0_ => absurd ((hoff 14 (by kernel_rfl)).symm.trans h0_) (by decide), fun h0_ => absurd ((hoff 29 (by kernel_rfl)).symm.trans h0_) (by decide), fun h0_ => absurd ((hoff 36 (by kernel_rfl)).symm.trans h0_) (by decide), fun h0_ => absurd ((hoff 36 (by kernel_rfl)).symm.trans h0_) (by decide)⟩
        refine steps_cons ?_ ?_
        ·rintro b a w' ⟨v377, v380, v383, v387, v390, v393, v399, v415, m36_, ha, Q_BK375, Q_HB, Q_HO378, Q_HO381, Q_HO384, Q_HO388, Q_HO391, Q_HO394, Q_HO400, Q_HO416, Q_X36_⟩ hb_ hon hoff
         refine ⟨_, rfl, fun K hK => ?_⟩
         have e15 : a.tmps[15]? = some (.agg #[.bool false, .int .i64 5]) := by rw [ha]; exact putSel_on (e := (12, 15, .agg #[.bool false, .int .i64 5])) 12 rfl rfl (hon 12 (by kernel_rfl)) rfl
         have e11 : a.tmps[11]? = some (.bool (t385 == 1)) := by rw [ha]; exact putSel_on (e := (8, 11, .bool (t385 == 1))) 8 rfl rfl (hon 8 (by kernel_rfl)) rfl
         replace ha := Aside0.mk ha
         have BK375 := Aside0.mk Q_BK375
         have HB := Aside0.mk Q_HB
         have HO384 := Aside0.mk (Q_HO384 (hon 5 (by kernel_rfl)))
         refine Kd.R_lit_step k42 _ 42 ?hg (N := 16) ?hd (xs := ([(⟨false, 5⟩ : S42)] : List (S42))) (inner := [.bool false, .int .i64 5]) (ok := fun _ => True) (okp := fun _ => True) ?hr ?hp (fun _ hk => hk) trivial (Below.refl _ _) (Nat.le_refl _) (by simp) ?_; (case hd => rfl); (case hg => (first | rfl | exact wanted_on rfl rfl rfl (e11.trans (by first | rfl | (simp [*]; done))) | exact wanted_on rfl rfl rfl (e21.trans (by first | rfl | (simp [*]; done))) | exact wanted_on rfl rfl rfl (e25.trans (by first | rfl | (simp [*]; done))) | exact wanted_on rfl rfl rfl (e30.trans (by first | rfl | (simp [*]; done))) | exact wanted_on rfl rfl rfl (e36.trans (by first | rfl | (simp [*]; done))) | exact wanted_on rfl rfl rfl (e42.trans (by first | rfl | (simp [*]; done))))); (case hr => first | (go_simp; done) | (go_simp; rfl)); (case hp => exact (Reps.c2 (show Kd.M k42 _ _ _ (⟨false, 5⟩ : S42) [.bool false, .int .i64 5] from (k42_mkM _ _ _ (⟨false, 5⟩ : S42) )) (Reps.none _ _)))
         intro v390 w32 ho33 hb hg_ hnew_
         clear hg_ hnew_
         (first | rw [← Ny389.out] at ho33 | (simp only [Int.reduceToNat] at ho33; rw [← Ny389.out] at ho33))
         have n0_ := Aside0.mk (Kd.N_elder' (by (with_reducible repeat (first | apply Kd.N_alloc | apply Kd.N_drewN | apply Kd.N_drew)); exact HO384.out) (Kd.R_base ho33) hb)
         have n1_ := Aside0.mk (Kd.R_lower ho33 (below_size (by repeat (first | (with_reducible first | exact HB.out | apply below_alloc | apply pw_below_drewN | apply below_drew1 | refine below_set ?_ GE375.out) | exact HB.out))))
         have n2_ := Aside0.mk (blk_below (by (with_reducible repeat (first | refine blk_drewN ?_ _ | refine blk_drew ?_ | refine blk_alloc ?_ _)); exact BK375.out) hb)
         have n3_ := Aside0.mk (below_step (by repeat (first | (with_reducible first | exact HB.out | apply below_alloc | apply pw_below_drewN | apply below_drew1 | refine below_set ?_ GE375.out) | exact HB.out)) hb)
         have z_HO388 := fun (h0_ : b 11 = true) (h1_ : b 14 = false) => (show Kd.R k42 42 w32 w.heap.size (fun _ => True) v387 y386 from by first | exact (Kd.R_elder' (by (with_reducible repeat (first | apply Kd.R_alloc | apply Kd.R_drewN | apply Kd.R_drew)); exact (Q_HO388 h0_ h1_)) (Kd.R_base ho33) hb) | exact Kd.R_mono (Kd.R_elder' (by (with_reducible repeat (first | apply Kd.R_alloc | apply Kd.R_drewN | apply Kd.R_drew)); exact (Q_HO388 h0_ h1_)) (Kd.R_base ho33) hb) (fun _ h_ => by first | trivial | exact h_ | exact h_.1))
         clear HO384
         clear BK375
         clear HB
         have HO384 := n0_
         have HO391 := n1_
         have BK375 := n2_
         have HB := n3_
         clear n0_ n1_ n2_ n3_
         clear hb ho33
         refine hK.out _ _ ⟨v377, v380, v383, v387, v390, v393, v399, v415, m36_, (by rw [ha.out]; exact putSel_upk 13 hb_ rfl rfl rfl), (by (with_reducible repeat (first | refine blk_drewN ?_ _ | refine blk_drew ?_ | refine blk_alloc ?_ _)); exact BK375.out), (by repeat (first | (with_reducible first | exact HB.out | apply below_alloc | apply pw_below_drewN | apply below_drew1 | refine below_set ?_ GE375.out) | exact HB.out)), fun _ h1_ => absurd ((hon 5 (by kernel_rfl)).symm.trans h1_) (by decide), fun _ h1_ => absurd ((hon 5 (by kernel_rfl)).symm.trans h1_) (by decide), fun _ => (by (with_reducible repeat (first | apply Kd.N_alloc | apply Kd.N_drewN | apply Kd.N_drew)); first | exact HO384.out | exact Kd.N_mono HO384.out (fun _ hk => by first | exact hk.1 | exact hk.2 | exact hk.2.2 | exact hk.1.2 | exact hk.1.2.2 | exact hk.2.1 | exact hk.2.2.2)), z_HO388, fun _ _ => (by (with_reducible repeat (first | apply Kd.R_alloc | apply Kd.R_drewN | apply Kd.R_drew)); exact HO391.out), fun h0_ => absurd ((hoff 14 (by kernel_rfl)).symm.trans h0_) (by decide), fun h0_ => absurd ((hoff 29 (by kernel_rfl)).symm.trans h0_) (by decide), fun h0_ => absurd ((hoff 36 (by kernel_rfl)).symm.trans h0_) (by decide), fun h0_ => absurd ((hoff 36 (by kernel_rfl)).symm.trans h0_) (by decide)⟩
        refine steps_cons ?_ ?_
        ·rintro b a w' ⟨v377, v380, v383, v387, v390, v393, v399, v415, m36_, ha, Q_BK375, Q_HB, Q_HO378, Q_HO381, Q_HO384, Q_HO388, Q_HO391, Q_HO394, Q_HO400, Q_HO416, Q_X36_⟩ hb_ hon hoff
         refine ⟨_, rfl, fun K hK => ?_⟩
         have e14 : a.tmps[14]? = some (v387) := by rw [ha]; exact putSel_on (e := (11, 14, v387)) 11 rfl rfl (hon 11 (by kernel_rfl)) rfl
         have e16 : a.tmps[16]? = some (v390) := by rw [ha]; exact putSel_on (e := (13, 16, v390)) 13 rfl rfl (hon 13 (by kernel_rfl)) rfl
         have e11 : a.tmps[11]? = some (.bool (t385 == 1)) := by rw [ha]; exact putSel_on (e := (8, 11, .bool (t385 == 1))) 8 rfl rfl (hon 8 (by kernel_rfl)) rfl
         replace ha := Aside0.mk ha
         have BK375 := Aside0.mk Q_BK375
         have HB := Aside0.mk Q_HB
         have HO384 := Aside0.mk (Q_HO384 (hon 5 (by kernel_rfl)))
         have HO388 := Aside0.mk (Q_HO388 (hon 11 (by kernel_rfl)) hb_)
         have HO391 := Aside0.mk (Q_HO391 (hon 13 (by kernel_rfl)) hb_)
         obtain ⟨Ao36, co36, eo36⟩ := Kd.R_slice HO388.out
         (first | subst eo36 | (injection eo36 with f1_ f2_ f3_; have f4_ := f1_.symm; have f5_ := f3_.symm; clear f1_ f2_ f3_; subst f4_; subst f5_))
         obtain ⟨Ao37, co37, eo37⟩ := Kd.R_slice HO391.out
         (first | subst eo37 | (injection eo37 with f1_ f2_ f3_; have f4_ := f1_.symm; have f5_ := f3_.symm; clear f1_ f2_ f3_; subst f4_; subst f5_))
         refine Kd.N_lit_step (Kd.slice 42 k42) _ 53 ?hg (N' := 17) ?hd (xs := ([y386, y389] : List (List (S42)))) (inner := [.slice Ao36 y386.length co36, .slice Ao37 y389.length co37]) (ok := (fun k_ => some k_ ≠ (v383 : Value).ownBlock ∧ k_ ≠ gb375)) (okp := (fun k_ => some k_ ≠ (v383 : Value).ownBlock ∧ k_ ≠ gb375)) ?hr ?hp (fun _ hk => hk) ((show ∀ k_, (_ : World).heap.size ≤ k_ → (fun k_ => some k_ ≠ (v383 : Value).ownBlock ∧ k_ ≠ gb375) k_ from fun k_ hk => ⟨Kd.fresh' (Kd.N_lt (by (with_reducible repeat (first | apply Kd.N_alloc | apply Kd.N_drewN | apply Kd.N_drew)); exact HO384.out)) k_ hk, Kd.freshB (g := gb375) (o := .cells #[.int .i64 2, .int .i64 0, .int .i64 1, .int .i64 1, .int .i64 0, .int .i64 0, .bool false, .int .i64 0, .int .i64 1, .int .i64 1, .int .i64 0, .bool false, .int .i64 0, .slice none 0 0] 46 (0, 0)) (by (with_reducible repeat (first | refine blk_drewN ?_ _ | refine blk_drew ?_ | refine blk_alloc ?_ _)); exact BK375.out) k_ hk⟩) _ (Nat.le_refl _)) (Below.refl _ _) (Nat.le_refl _) (by simp) ?_; (case hd => rfl); (case hg => (first | rfl | exact wanted_on rfl rfl rfl (e11.trans (by first | rfl | (simp [*]; done))) | exact wanted_on rfl rfl rfl (e21.trans (by first | rfl | (simp [*]; done))) | exact wanted_on rfl rfl rfl (e25.trans (by first | rfl | (simp [*]; done))) | exact wanted_on rfl rfl rfl (e30.trans (by first | rfl | (simp [*]; done))) | exact wanted_on rfl rfl rfl (e36.trans (by first | rfl | (simp [*]; done))) | exact wanted_on rfl rfl rfl (e42.trans (by first | rfl | (simp [*]; done))))); (case hr => first | (go_simp; done) | (go_simp; rfl)); (case hp => exact (Reps.one (show Kd.FK (Kd.slice 42 k42) _ _ y386 [.slice Ao36 y386.length co36] from (Kd.FK_slice_mk (Kd.R_reads' (Kd.R_mono (ok' := (fun k_ => some k_ ≠ (v383 : Value).ownBlock ∧ k_ ≠ gb375)) (Kd.R_types (Kd.R_apart' (HO388.out) (Kd.N_typed HO384.out) (by decide)) BK375.out (by decide)) (fun k_ hk => ⟨hk.1.2, hk.2⟩))).2.1 (Kd.R_F (Kd.R_mono (ok' := (fun k_ => some k_ ≠ (v383 : Value).ownBlock ∧ k_ ≠ gb375)) (Kd.R_types (Kd.R_apart' (HO388.out) (Kd.N_typed HO384.out) (by decide)) BK375.out (by decide)) (fun k_ hk => ⟨hk.1.2, hk.2⟩))))) (Reps.one (show Kd.FK (Kd.slice 42 k42) _ _ y389 [.slice Ao37 y389.length co37] from (Kd.FK_slice_mk (Kd.R_reads' (Kd.R_mono (ok' := (fun k_ => some k_ ≠ (v383 : Value).ownBlock ∧ k_ ≠ gb375)) (Kd.R_types (Kd.R_apart' (HO391.out) (Kd.N_typed HO384.out) (by decide)) BK375.out (by decide)) (fun k_ hk => ⟨hk.1.2, hk.2⟩))).2.1 (Kd.R_F (Kd.R_mono (ok' := (fun k_ => some k_ ≠ (v383 : Value).ownBlock ∧ k_ ≠ gb375)) (Kd.R_types (Kd.R_apart' (HO391.out) (Kd.N_typed HO384.out) (by decide)) BK375.out (by decide)) (fun k_ hk => ⟨hk.1.2, hk.2⟩))))) (Reps.none _ _))))
         intro v393 w38 ho39 hb hg_ hnew_
         clear hg_ hnew_
         (first | rw [← Ny392.out] at ho39 | (simp only [Int.reduceToNat] at ho39; rw [← Ny392.out] at ho39))
         have n0_ := Aside0.mk (Kd.N_elder' (by (with_reducible repeat (first | apply Kd.N_alloc | apply Kd.N_drewN | apply Kd.N_drew)); exact HO384.out) (Kd.N_base ho39) hb)
         have n1_ := Aside0.mk (Kd.N_lower ho39 (below_size (by repeat (first | (with_reducible first | exact HB.out | apply below_alloc | apply pw_below_drewN | apply below_drew1 | refine below_set ?_ GE375.out) | exact HB.out))))
         have n2_ := Aside0.mk (blk_below (by (with_reducible repeat (first | refine blk_drewN ?_ _ | refine blk_drew ?_ | refine blk_alloc ?_ _)); exact BK375.out) hb)
         have n3_ := Aside0.mk (below_step (by repeat (first | (with_reducible first | exact HB.out | apply below_alloc | apply pw_below_drewN | apply below_drew1 | refine below_set ?_ GE375.out) | exact HB.out)) hb)
         clear HO384
         clear BK375
         clear HB
         clear HO388
         clear HO391
         have HO384 := n0_
         have HO394 := n1_
         have BK375 := n2_
         have HB := n3_
         clear n0_ n1_ n2_ n3_
         clear hb ho39
         refine hK.out _ _ ⟨v377, v380, v383, .slice Ao36 y386.length co36, .slice Ao37 y389.length co37, v393, v399, v415, m36_, (by rw [ha.out]; exact putSel_upk 14 hb_ rfl rfl rfl), (by (with_reducible repeat (first | refine blk_drewN ?_ _ | refine blk_drew ?_ | refine blk_alloc ?_ _)); exact BK375.out), (by repeat (first | (with_reducible first | exact HB.out | apply below_alloc | apply pw_below_drewN | apply below_drew1 | refine below_set ?_ GE375.out) | exact HB.out)), fun _ h1_ => absurd ((hon 5 (by kernel_rfl)).symm.trans h1_) (by decide), fun _ h1_ => absurd ((hon 5 (by kernel_rfl)).symm.trans h1_) (by decide), fun _ => (by (with_reducible repeat (first | apply Kd.N_alloc | apply Kd.N_drewN | apply Kd.N_drew)); first | exact HO384.out | exact Kd.N_mono HO384.out (fun _ hk => by first | exact hk.1 | exact hk.2 | exact hk.2.2 | exact hk.1.2 | exact hk.1.2.2 | exact hk.2.1 | exact hk.2.2.2)), fun _ h1_ => absurd ((up_self b 14).symm.trans h1_) (by decide), fun _ h1_ => absurd ((up_self b 14).symm.trans h1_) (by decide), fun _ => (by (with_reducible repeat (first | apply Kd.N_alloc | apply Kd.N_drewN | apply Kd.N_drew)); first | exact HO394.out | exact Kd.N_mono HO394.out (fun _ hk => by first | exact hk.1 | exact hk.2 | exact hk.2.2 | exact hk.1.2 | exact hk.1.2.2 | exact hk.2.1 | exact hk.2.2.2)), fun h0_ => absurd ((hoff 29 (by kernel_rfl)).symm.trans h0_) (by decide), fun h0_ => absurd ((hoff 36 (by kernel_rfl)).symm.trans h0_) (by decide), fun h0_ => absurd ((hoff 36 (by kernel_rfl)).symm.trans h0_) (by decide)⟩
        refine steps_cons ?_ ?_
        ·rintro b a w' ⟨v377, v380, v383, v387, v390, v393, v399, v415, m36_, ha, Q_BK375, Q_HB, Q_HO378, Q_HO381, Q_HO384, Q_HO388, Q_HO391, Q_HO394, Q_HO400, Q_HO416, Q_X36_⟩ hb_ hon hoff
         refine ⟨_, rfl, fun K hK => ?_⟩
         have e12 : a.tmps[12]? = some (.agg #[.int .i64 2, .int .i64 0, .int .i64 1, .int .i64 1, .int .i64 0, .int .i64 0, .bool false, .int .i64 0, .int .i64 1, .int .i64 1, .int .i64 0, .bool false, .int .i64 0, .slice none 0 0]) := by rw [ha]; exact putSel_on (e := (9, 12, .agg #[.int .i64 2, .int .i64 0, .int .i64 1, .int .i64 1, .int .i64 0, .int .i64 0, .bool false, .int .i64 0, .int .i64 1, .int .i64 1, .int .i64 0, .bool false, .int .i64 0, .slice none 0 0])) 9 rfl rfl (hon 9 (by kernel_rfl)) rfl
         have e17 : a.tmps[17]? = some (v393) := by rw [ha]; exact putSel_on (e := (14, 17, v393)) 14 rfl rfl (hon 14 (by kernel_rfl)) rfl
         have e11 : a.tmps[11]? = some (.bool (t385 == 1)) := by rw [ha]; exact putSel_on (e := (8, 11, .bool (t385 == 1))) 8 rfl rfl (hon 8 (by kernel_rfl)) rfl
         replace ha := Aside0.mk ha
         have BK375 := Aside0.mk Q_BK375
         have HB := Aside0.mk Q_HB
         have HO384 := Aside0.mk (Q_HO384 (hon 5 (by kernel_rfl)))
         have HO394 := Aside0.mk (Q_HO394 (hon 14 (by kernel_rfl)))
         obtain ⟨Ao40, co40, eo40⟩ := Kd.N_slice HO394.out
         (first | subst eo40 | (injection eo40 with f1_ f2_ f3_; have f4_ := f1_.symm; have f5_ := f3_.symm; clear f1_ f2_ f3_; subst f4_; subst f5_))
         refine goes_ Try.func31 (by kernel_rfl) rfl #[.agg #[.int .i64 2, .int .i64 0, .int .i64 1, .int .i64 1, .int .i64 0, .int .i64 0, .bool false, .int .i64 0, .int .i64 1, .int .i64 1, .int .i64 0, .bool false, .int .i64 0, .slice none 0 0], .slice Ao40 y392.length co40] (by (first | rfl | exact wanted_on rfl rfl rfl (e11.trans (by first | rfl | (simp [*]; done))) | exact wanted_on rfl rfl rfl (e21.trans (by first | rfl | (simp [*]; done))) | exact wanted_on rfl rfl rfl (e25.trans (by first | rfl | (simp [*]; done))) | exact wanted_on rfl rfl rfl (e30.trans (by first | rfl | (simp [*]; done))) | exact wanted_on rfl rfl rfl (e36.trans (by first | rfl | (simp [*]; done))) | exact wanted_on rfl rfl rfl (e42.trans (by first | rfl | (simp [*]; done))))) rfl rfl (by first | (simp only [List.map_toArray, List.map_cons, List.map_nil, Act.eval, Array.getD_eq_getD_getElem?, Option.getD_some, e12, e17, e11]; done) | (simp only [List.map_toArray, List.map_cons, List.map_nil, Act.eval, Array.getD_eq_getD_getElem?, Option.getD_some, e12, e17, e11]; rfl)) ?_
         refine (pred_Of.calls k 2 0 1 1 0 0 false 0 1 1 0 false 0 _ _ ([] : List (S46)) _ _ y392 t395 _ ?side1 ?side2 ?side3 ?side4 A4.out).mono ?_
         (case side1 => exact Kd.C_nil _ _)
         (case side2 => exact Nat.le_refl _)
         (case side3 => repeat (first | exact (Kd.N_reads' HO394.out).2.2 | (with_reducible refine Kd.C_alloc ?_ _) | (with_reducible refine Kd.C_drewN ?_ _) | (with_reducible refine Kd.C_drew ?_)))
         (case side4 => exact (Kd.N_reads' HO394.out).2.1)
         rintro e w41 ⟨rfl, hb⟩
         refine ⟨_, rfl, ?_⟩
         have n0_ := Aside0.mk (Kd.N_below (by (with_reducible repeat (first | apply Kd.N_alloc | apply Kd.N_drewN | apply Kd.N_drew)); exact HO384.out) hb)
         have n1_ := Aside0.mk (Kd.N_below (by (with_reducible repeat (first | apply Kd.N_alloc | apply Kd.N_drewN | apply Kd.N_drew)); exact HO394.out) hb)
         have n2_ := Aside0.mk (blk_below (by (with_reducible repeat (first | refine blk_drewN ?_ _ | refine blk_drew ?_ | refine blk_alloc ?_ _)); exact BK375.out) hb)
         have n3_ := Aside0.mk (below_step (by repeat (first | (with_reducible first | exact HB.out | apply below_alloc | apply pw_below_drewN | apply below_drew1 | refine below_set ?_ GE375.out) | exact HB.out)) hb)
         clear HO384
         clear HO394
         clear BK375
         clear HB
         have HO384 := n0_
         have HO394 := n1_
         have BK375 := n2_
         have HB := n3_
         clear n0_ n1_ n2_ n3_
         (try clear hb)
         (try clear hb2)
         (try clear hk)
         (try clear hi)
         refine hK.out _ _ ⟨v377, v380, v383, v387, v390, .slice Ao40 y392.length co40, v399, v415, m36_, (by rw [ha.out]; exact putSel_upk 15 hb_ rfl rfl rfl), (by (with_reducible repeat (first | refine blk_drewN ?_ _ | refine blk_drew ?_ | refine blk_alloc ?_ _)); exact BK375.out), (by repeat (first | (with_reducible first | exact HB.out | apply below_alloc | apply pw_below_drewN | apply below_drew1 | refine below_set ?_ GE375.out) | exact HB.out)), fun _ h1_ => absurd ((hon 5 (by kernel_rfl)).symm.trans h1_) (by decide), fun _ h1_ => absurd ((hon 5 (by kernel_rfl)).symm.trans h1_) (by decide), fun _ => (by (with_reducible repeat (first | apply Kd.N_alloc | apply Kd.N_drewN | apply Kd.N_drew)); first | exact HO384.out | exact Kd.N_mono HO384.out (fun _ hk => by first | exact hk.1 | exact hk.2 | exact hk.2.2 | exact hk.1.2 | exact hk.1.2.2 | exact hk.2.1 | exact hk.2.2.2)), fun _ h1_ => absurd ((hon 14 (by kernel_rfl)).symm.trans h1_) (by decide), fun _ h1_ => absurd ((hon 14 (by kernel_rfl)).symm.trans h1_) (by decide), fun _ => (by (with_reducible repeat (first | apply Kd.N_alloc | apply Kd.N_drewN | apply Kd.N_drew)); first | exact HO394.out | exact Kd.N_mono HO394.out (fun _ hk => by first | exact hk.1 | exact hk.2 | exact hk.2.2 | exact hk.1.2 | exact hk.1.2.2 | exact hk.2.1 | exact hk.2.2.2)), fun h0_ => absurd ((hoff 29 (by kernel_rfl)).symm.trans h0_) (by decide), fun h0_ => absurd ((hoff 36 (by kernel_rfl)).symm.trans h0_) (by decide), fun h0_ => absurd ((hoff 36 (by kernel_rfl)).symm.trans h0_) (by decide)⟩
        refine steps_cons ?_ ?_
        ·rintro b a w' ⟨v377, v380, v383, v387, v390, v393, v399, v415, m36_, ha, Q_BK375, Q_HB, Q_HO378, Q_HO381, Q_HO384, Q_HO388, Q_HO391, Q_HO394, Q_HO400, Q_HO416, Q_X36_⟩ hb_ hon hoff
         refine ⟨_, rfl, fun K hK => ?_⟩
         have e18 : a.tmps[18]? = some (.int .i64 t395) := by rw [ha]; exact putSel_on (e := (15, 18, .int .i64 t395)) 15 rfl rfl (hon 15 (by kernel_rfl)) rfl
         have e11 : a.tmps[11]? = some (.bool (t385 == 1)) := by rw [ha]; exact putSel_on (e := (8, 11, .bool (t385 == 1))) 8 rfl rfl (hon 8 (by kernel_rfl)) rfl
         replace ha := Aside0.mk ha
         have BK375 := Aside0.mk Q_BK375
         have HB := Aside0.mk Q_HB
         have HO384 := Aside0.mk (Q_HO384 (hon 5 (by kernel_rfl)))
         have HO394 := Aside0.mk (Q_HO394 (hon 14 (by kernel_rfl)))
         refine value_ (w1 := w') (v := .bool (t395 == 2)) (wanted_on rfl rfl rfl (e11.trans (by first | rfl | (simp [*]; done)))) rfl ?_ ?_
         ·go_simp
          (try simp only [i64_w])
          try rfl
         refine hK.out _ _ ⟨v377, v380, v383, v387, v390, v393, v399, v415, m36_, (by rw [ha.out]; exact putSel_upk 16 hb_ rfl rfl rfl), Q_BK375, Q_HB, fun _ h1_ => absurd ((hon 5 (by kernel_rfl)).symm.trans h1_) (by decide), fun _ h1_ => absurd ((hon 5 (by kernel_rfl)).symm.trans h1_) (by decide), Q_HO384, fun _ h1_ => absurd ((hon 14 (by kernel_rfl)).symm.trans h1_) (by decide), fun _ h1_ => absurd ((hon 14 (by kernel_rfl)).symm.trans h1_) (by decide), Q_HO394, fun h0_ => absurd ((hoff 29 (by kernel_rfl)).symm.trans h0_) (by decide), fun h0_ => absurd ((hoff 36 (by kernel_rfl)).symm.trans h0_) (by decide), fun h0_ => absurd ((hoff 36 (by kernel_rfl)).symm.trans h0_) (by decide)⟩
        refine steps_cons ?_ ?_
        ·rintro b a w' ⟨v377, v380, v383, v387, v390, v393, v399, v415, m36_, ha, Q_BK375, Q_HB, Q_HO378, Q_HO381, Q_HO384, Q_HO388, Q_HO391, Q_HO394, Q_HO400, Q_HO416, Q_X36_⟩ hb_ hon hoff
         refine ⟨_, rfl, fun K hK => ?_⟩
         have e11 : a.tmps[11]? = some (.bool (t385 == 1)) := by rw [ha]; exact putSel_on (e := (8, 11, .bool (t385 == 1))) 8 rfl rfl (hon 8 (by kernel_rfl)) rfl
         have e19 : a.tmps[19]? = some (.bool (t395 == 2)) := by rw [ha]; exact putSel_on (e := (16, 19, .bool (t395 == 2))) 16 rfl rfl (hon 16 (by kernel_rfl)) rfl
         replace ha := Aside0.mk ha
         have BK375 := Aside0.mk Q_BK375
         have HB := Aside0.mk Q_HB
         have HO384 := Aside0.mk (Q_HO384 (hon 5 (by kernel_rfl)))
         have HO394 := Aside0.mk (Q_HO394 (hon 14 (by kernel_rfl)))
         refine value_ (w1 := w') (v := .bool (t395 == 2)) (by rfl) rfl ?_ ?_
         ·go_simp
          (try simp only [i64_w])
          try rfl
         refine hK.out _ _ ⟨v377, v380, v383, v387, v390, v393, v399, v415, m36_, (by rw [ha.out]; exact putSel_upk 17 hb_ rfl rfl rfl), Q_BK375, Q_HB, fun _ h1_ => absurd ((hon 5 (by kernel_rfl)).symm.trans h1_) (by decide), fun _ h1_ => absurd ((hon 5 (by kernel_rfl)).symm.trans h1_) (by decide), Q_HO384, fun _ h1_ => absurd ((hon 14 (by kernel_rfl)).symm.trans h1_) (by decide), fun _ h1_ => absurd ((hon 14 (by kernel_rfl)).symm.trans h1_) (by decide), Q_HO394, fun h0_ => absurd ((hoff 29 (by kernel_rfl)).symm.trans h0_) (by decide), fun h0_ => absurd ((hoff 36 (by kernel_rfl)).symm.trans h0_) (by decide), fun h0_ => absurd ((hoff 36 (by kernel_rfl)).symm.trans h0_) (by decide)⟩
        refine steps_cons ?_ ?_
        ·rintro b a w' ⟨v377, v380, v383, v387, v390, v393, v399, v415, m36_, ha, Q_BK375, Q_HB, Q_HO378, Q_HO381, Q_HO384, Q_HO388, Q_HO391, Q_HO394, Q_HO400, Q_HO416, Q_X36_⟩ hb_ hon hoff
         refine ⟨_, rfl, fun K hK => ?_⟩
         have e20 : a.tmps[20]? = some (.bool (t395 == 2)) := by rw [ha]; exact putSel_on (e := (17, 20, .bool (t395 == 2))) 17 rfl rfl (hon 17 (by kernel_rfl)) rfl
         replace ha := Aside0.mk ha
         have BK375 := Aside0.mk Q_BK375
         have HB := Aside0.mk Q_HB
         have HO384 := Aside0.mk (Q_HO384 (hon 5 (by kernel_rfl)))
         have HO394 := Aside0.mk (Q_HO394 (hon 14 (by kernel_rfl)))
         refine value_ (w1 := w') (v := .bool (t395 == 2)) (by rfl) rfl ?_ ?_
         ·go_simp
          (try simp only [i64_w])
          try rfl
         refine hK.out _ _ ⟨v377, v380, v383, v387, v390, v393, v399, v415, m36_, (by rw [ha.out]; exact putSel_upk 18 hb_ rfl rfl rfl), Q_BK375, Q_HB, fun _ h1_ => absurd ((hon 5 (by kernel_rfl)).symm.trans h1_) (by decide), fun _ h1_ => absurd ((hon 5 (by kernel_rfl)).symm.trans h1_) (by decide), Q_HO384, fun _ h1_ => absurd ((hon 14 (by kernel_rfl)).symm.trans h1_) (by decide), fun _ h1_ => absurd ((hon 14 (by kernel_rfl)).symm.trans h1_) (by decide), Q_HO394, fun h0_ => absurd ((hoff 29 (by kernel_rfl)).symm.trans h0_) (by decide), fun h0_ => absurd ((hoff 36 (by kernel_rfl)).symm.trans h0_) (by decide), fun h0_ => absurd ((hoff 36 (by kernel_rfl)).symm.trans h0_) (by decide)⟩
        refine steps_cons ?_ ?_
        ·rintro b a w' ⟨v377, v380, v383, v387, v390, v393, v399, v415, m36_, ha, Q_BK375, Q_HB, Q_HO378, Q_HO381, Q_HO384, Q_HO388, Q_HO391, Q_HO394, Q_HO400, Q_HO416, Q_X36_⟩ hb_ hon hoff
         refine ⟨_, rfl, fun K hK => ?_⟩
         have e1 : a.tmps[1]? = some (.pointer (some ⟨gb375, 0, none⟩)) := by rw [ha]; exact (putSel_off rfl).trans rfl
         have e21 : a.tmps[21]? = some (.bool (t395 == 2)) := by rw [ha]; exact putSel_on (e := (18, 21, .bool (t395 == 2))) 18 rfl rfl (hon 18 (by kernel_rfl)) rfl
         replace ha := Aside0.mk ha
         have BK375 := Aside0.mk Q_BK375
         have HB := Aside0.mk Q_HB
         have HO384 := Aside0.mk (Q_HO384 (hon 5 (by kernel_rfl)))
         have HO394 := Aside0.mk (Q_HO394 (hon 14 (by kernel_rfl)))
         have hc0_ : w'.cell? ⟨gb375, 0, none⟩ = some (.int .i64 2) := (blk_cell BK375.out 0).trans rfl
         have hc1_ : w'.cell? ⟨gb375, 1, none⟩ = some (.int .i64 0) := (blk_cell BK375.out 1).trans rfl
         have hc2_ : w'.cell? ⟨gb375, 2, none⟩ = some (.int .i64 1) := (blk_cell BK375.out 2).trans rfl
         have hc3_ : w'.cell? ⟨gb375, 3, none⟩ = some (.int .i64 1) := (blk_cell BK375.out 3).trans rfl
         have hc4_ : w'.cell? ⟨gb375, 4, none⟩ = some (.int .i64 0) := (blk_cell BK375.out 4).trans rfl
         have hc5_ : w'.cell? ⟨gb375, 5, none⟩ = some (.int .i64 0) := (blk_cell BK375.out 5).trans rfl
         have hc6_ : w'.cell? ⟨gb375, 6, none⟩ = some (.bool false) := (blk_cell BK375.out 6).trans rfl
         have hc7_ : w'.cell? ⟨gb375, 7, none⟩ = some (.int .i64 0) := (blk_cell BK375.out 7).trans rfl
         have hc8_ : w'.cell? ⟨gb375, 8, none⟩ = some (.int .i64 1) := (blk_cell BK375.out 8).trans rfl
         have hc9_ : w'.cell? ⟨gb375, 9, none⟩ = some (.int .i64 1) := (blk_cell BK375.out 9).trans rfl
         have hc10_ : w'.cell? ⟨gb375, 10, none⟩ = some (.int .i64 0) := (blk_cell BK375.out 10).trans rfl
         have hc11_ : w'.cell? ⟨gb375, 11, none⟩ = some (.bool false) := (blk_cell BK375.out 11).trans rfl
         have hc12_ : w'.cell? ⟨gb375, 12, none⟩ = some (.int .i64 0) := (blk_cell BK375.out 12).trans rfl
         have hc13_ : w'.cell? ⟨gb375, 13, none⟩ = some (.slice none 0 0) := (blk_cell BK375.out 13).trans rfl
         refine value_ (w1 := w') (v := .agg #[.int .i64 2, .int .i64 0, .int .i64 1, .int .i64 1, .int .i64 0, .int .i64 0, .bool false, .int .i64 0, .int .i64 1, .int .i64 1, .int .i64 0, .bool false, .int .i64 0, .slice none 0 0]) (wanted_on rfl rfl rfl (e21.trans (by first | rfl | (simp [*]; done)))) rfl ?_ ?_
         ·go_simp
          (try simp only [i64_w])
          try rfl
         refine hK.out _ _ ⟨v377, v380, v383, v387, v390, v393, v399, v415, m36_, (by rw [ha.out]; exact putSel_upk 19 hb_ rfl rfl rfl), Q_BK375, Q_HB, fun _ h1_ => absurd ((hon 5 (by kernel_rfl)).symm.trans h1_) (by decide), fun _ h1_ => absurd ((hon 5 (by kernel_rfl)).symm.trans h1_) (by decide), Q_HO384, fun _ h1_ => absurd ((hon 14 (by kernel_rfl)).symm.trans h1_) (by decide), fun _ h1_ => absurd ((hon 14 (by kernel_rfl)).symm.trans h1_) (by decide), Q_HO394, fun h0_ => absurd ((hoff 29 (by kernel_rfl)).symm.trans h0_) (by decide), fun h0_ => absurd ((hoff 36 (by kernel_rfl)).symm.trans h0_) (by decide), fun h0_ => absurd ((hoff 36 (by kernel_rfl)).symm.trans h0_) (by decide)⟩
        refine steps_cons ?_ ?_
        ·rintro b a w' ⟨v377, v380, v383, v387, v390, v393, v399, v415, m36_, ha, Q_BK375, Q_HB, Q_HO378, Q_HO381, Q_HO384, Q_HO388, Q_HO391, Q_HO394, Q_HO400, Q_HO416, Q_X36_⟩ hb_ hon hoff
         refine ⟨_, rfl, fun K hK => ?_⟩
         have e22 : a.tmps[22]? = some (.agg #[.int .i64 2, .int .i64 0, .int .i64 1, .int .i64 1, .int .i64 0, .int .i64 0, .bool false, .int .i64 0, .int .i64 1, .int .i64 1, .int .i64 0, .bool false, .int .i64 0, .slice none 0 0]) := by rw [ha]; exact putSel_on (e := (19, 22, .agg #[.int .i64 2, .int .i64 0, .int .i64 1, .int .i64 1, .int .i64 0, .int .i64 0, .bool false, .int .i64 0, .int .i64 1, .int .i64 1, .int .i64 0, .bool false, .int .i64 0, .slice none 0 0])) 19 rfl rfl (hon 19 (by kernel_rfl)) rfl
         have e21 : a.tmps[21]? = some (.bool (t395 == 2)) := by rw [ha]; exact putSel_on (e := (18, 21, .bool (t395 == 2))) 18 rfl rfl (hon 18 (by kernel_rfl)) rfl
         replace ha := Aside0.mk ha
         have BK375 := Aside0.mk Q_BK375
         have HB := Aside0.mk Q_HB
         have HO384 := Aside0.mk (Q_HO384 (hon 5 (by kernel_rfl)))
         have HO394 := Aside0.mk (Q_HO394 (hon 14 (by kernel_rfl)))
         refine goes_ Try.func37 (by kernel_rfl) rfl #[.agg #[.int .i64 2, .int .i64 0, .int .i64 1, .int .i64 1, .int .i64 0, .int .i64 0, .bool false, .int .i64 0, .int .i64 1, .int .i64 1, .int .i64 0, .bool false, .int .i64 0, .slice none 0 0]] (by (first | rfl | exact wanted_on rfl rfl rfl (e11.trans (by first | rfl | (simp [*]; done))) | exact wanted_on rfl rfl rfl (e21.trans (by first | rfl | (simp [*]; done))) | exact wanted_on rfl rfl rfl (e25.trans (by first | rfl | (simp [*]; done))) | exact wanted_on rfl rfl rfl (e30.trans (by first | rfl | (simp [*]; done))) | exact wanted_on rfl rfl rfl (e36.trans (by first | rfl | (simp [*]; done))) | exact wanted_on rfl rfl rfl (e42.trans (by first | rfl | (simp [*]; done))))) rfl rfl (by first | (simp only [List.map_toArray, List.map_cons, List.map_nil, Act.eval, Array.getD_eq_getD_getElem?, Option.getD_some, e22, e21]; done) | (simp only [List.map_toArray, List.map_cons, List.map_nil, Act.eval, Array.getD_eq_getD_getElem?, Option.getD_some, e22, e21]; rfl)) ?_
         refine (pred_Right.calls k 2 0 1 1 0 0 false 0 1 1 0 false 0 _ _ ([] : List (S46)) true _ ?side1 ?side2 A6.out).mono ?_
         (case side1 => exact Kd.C_nil _ _)
         (case side2 => exact Nat.le_refl _)
         rintro e w42 ⟨rfl, hb⟩
         refine ⟨_, rfl, ?_⟩
         have n0_ := Aside0.mk (Kd.N_below (by (with_reducible repeat (first | apply Kd.N_alloc | apply Kd.N_drewN | apply Kd.N_drew)); exact HO384.out) hb)
         have n1_ := Aside0.mk (Kd.N_below (by (with_reducible repeat (first | apply Kd.N_alloc | apply Kd.N_drewN | apply Kd.N_drew)); exact HO394.out) hb)
         have n2_ := Aside0.mk (blk_below (by (with_reducible repeat (first | refine blk_drewN ?_ _ | refine blk_drew ?_ | refine blk_alloc ?_ _)); exact BK375.out) hb)
         have n3_ := Aside0.mk (below_step (by repeat (first | (with_reducible first | exact HB.out | apply below_alloc | apply pw_below_drewN | apply below_drew1 | refine below_set ?_ GE375.out) | exact HB.out)) hb)
         clear HO384
         clear HO394
         clear BK375
         clear HB
         have HO384 := n0_
         have HO394 := n1_
         have BK375 := n2_
         have HB := n3_
         clear n0_ n1_ n2_ n3_
         (try clear hb)
         (try clear hb2)
         (try clear hk)
         (try clear hi)
         refine hK.out _ _ ⟨v377, v380, v383, v387, v390, v393, v399, v415, m36_, (by rw [ha.out]; exact putSel_upk 20 hb_ rfl rfl rfl), (by (with_reducible repeat (first | refine blk_drewN ?_ _ | refine blk_drew ?_ | refine blk_alloc ?_ _)); exact BK375.out), (by repeat (first | (with_reducible first | exact HB.out | apply below_alloc | apply pw_below_drewN | apply below_drew1 | refine below_set ?_ GE375.out) | exact HB.out)), fun _ h1_ => absurd ((hon 5 (by kernel_rfl)).symm.trans h1_) (by decide), fun _ h1_ => absurd ((hon 5 (by kernel_rfl)).symm.trans h1_) (by decide), fun _ => (by (with_reducible repeat (first | apply Kd.N_alloc | apply Kd.N_drewN | apply Kd.N_drew)); first | exact HO384.out | exact Kd.N_mono HO384.out (fun _ hk => by first | exact hk.1 | exact hk.2 | exact hk.2.2 | exact hk.1.2 | exact hk.1.2.2 | exact hk.2.1 | exact hk.2.2.2)), fun _ h1_ => absurd ((hon 14 (by kernel_rfl)).symm.trans h1_) (by decide), fun _ h1_ => absurd ((hon 14 (by kernel_rfl)).symm.trans h1_) (by decide), fun _ => (by (with_reducible repeat (first | apply Kd.N_alloc | apply Kd.N_drewN | apply Kd.N_drew)); first | exact HO394.out | exact Kd.N_mono HO394.out (fun _ hk => by first | exact hk.1 | exact hk.2 | exact hk.2.2 | exact hk.1.2 | exact hk.1.2.2 | exact hk.2.1 | exact hk.2.2.2)), fun h0_ => absurd ((hoff 29 (by kernel_rfl)).symm.trans h0_) (by decide), fun h0_ => absurd ((hoff 36 (by kernel_rfl)).symm.trans h0_) (by decide), fun h0_ => absurd ((hoff 36 (by kernel_rfl)).symm.trans h0_) (by decide)⟩
        refine steps_cons ?_ ?_
        ·rintro b a w' ⟨v377, v380, v383, v387, v390, v393, v399, v415, m36_, ha, Q_BK375, Q_HB, Q_HO378, Q_HO381, Q_HO384, Q_HO388, Q_HO391, Q_HO394, Q_HO400, Q_HO416, Q_X36_⟩ hb_ hon hoff
         refine ⟨_, rfl, fun K hK => ?_⟩
         have e21 : a.tmps[21]? = some (.bool (t395 == 2)) := by rw [ha]; exact putSel_on (e := (18, 21, .bool (t395 == 2))) 18 rfl rfl (hon 18 (by kernel_rfl)) rfl
         have e23 : a.tmps[23]? = some (.bool true) := by rw [ha]; exact putSel_on (e := (20, 23, .bool true)) 20 rfl rfl (hon 20 (by kernel_rfl)) rfl
         replace ha := Aside0.mk ha
         have BK375 := Aside0.mk Q_BK375
         have HB := Aside0.mk Q_HB
         have HO384 := Aside0.mk (Q_HO384 (hon 5 (by kernel_rfl)))
         have HO394 := Aside0.mk (Q_HO394 (hon 14 (by kernel_rfl)))
         refine value_ (w1 := w') (v := .bool true) (by rfl) rfl ?_ ?_
         ·go_simp
          (try simp only [i64_w])
          try rfl
         refine hK.out _ _ ⟨v377, v380, v383, v387, v390, v393, v399, v415, m36_, (by rw [ha.out]; exact putSel_upk 21 hb_ rfl rfl rfl), Q_BK375, Q_HB, fun _ h1_ => absurd ((hon 5 (by kernel_rfl)).symm.trans h1_) (by decide), fun _ h1_ => absurd ((hon 5 (by kernel_rfl)).symm.trans h1_) (by decide), Q_HO384, fun _ h1_ => absurd ((hon 14 (by kernel_rfl)).symm.trans h1_) (by decide), fun _ h1_ => absurd ((hon 14 (by kernel_rfl)).symm.trans h1_) (by decide), Q_HO394, fun h0_ => absurd ((hoff 29 (by kernel_rfl)).symm.trans h0_) (by decide), fun h0_ => absurd ((hoff 36 (by kernel_rfl)).symm.trans h0_) (by decide), fun h0_ => absurd ((hoff 36 (by kernel_rfl)).symm.trans h0_) (by decide)⟩
        refine steps_cons ?_ ?_
        ·rintro b a w' ⟨v377, v380, v383, v387, v390, v393, v399, v415, m36_, ha, Q_BK375, Q_HB, Q_HO378, Q_HO381, Q_HO384, Q_HO388, Q_HO391, Q_HO394, Q_HO400, Q_HO416, Q_X36_⟩ hb_ hon hoff
         refine ⟨_, rfl, fun K hK => ?_⟩
         have e24 : a.tmps[24]? = some (.bool true) := by rw [ha]; exact putSel_on (e := (21, 24, .bool true)) 21 rfl rfl (hon 21 (by kernel_rfl)) rfl
         replace ha := Aside0.mk ha
         have BK375 := Aside0.mk Q_BK375
         have HB := Aside0.mk Q_HB
         have HO384 := Aside0.mk (Q_HO384 (hon 5 (by kernel_rfl)))
         have HO394 := Aside0.mk (Q_HO394 (hon 14 (by kernel_rfl)))
         refine value_ (w1 := w') (v := .bool true) (by rfl) rfl ?_ ?_
         ·go_simp
          (try simp only [i64_w])
          try rfl
         refine hK.out _ _ ⟨v377, v380, v383, v387, v390, v393, v399, v415, m36_, (by rw [ha.out]; exact putSel_upk 22 hb_ rfl rfl rfl), Q_BK375, Q_HB, fun _ h1_ => absurd ((hon 5 (by kernel_rfl)).symm.trans h1_) (by decide), fun _ h1_ => absurd ((hon 5 (by kernel_rfl)).symm.trans h1_) (by decide), Q_HO384, fun _ h1_ => absurd ((hon 14 (by kernel_rfl)).symm.trans h1_) (by decide), fun _ h1_ => absurd ((hon 14 (by kernel_rfl)).symm.trans h1_) (by decide), Q_HO394, fun h0_ => absurd ((hoff 29 (by kernel_rfl)).symm.trans h0_) (by decide), fun h0_ => absurd ((hoff 36 (by kernel_rfl)).symm.trans h0_) (by decide), fun h0_ => absurd ((hoff 36 (by kernel_rfl)).symm.trans h0_) (by decide)⟩
        refine steps_cons ?_ ?_
        ·rintro b a w' ⟨v377, v380, v383, v387, v390, v393, v399, v415, m36_, ha, Q_BK375, Q_HB, Q_HO378, Q_HO381, Q_HO384, Q_HO388, Q_HO391, Q_HO394, Q_HO400, Q_HO416, Q_X36_⟩ hb_ hon hoff
         refine ⟨_, rfl, fun K hK => ?_⟩
         have e1 : a.tmps[1]? = some (.pointer (some ⟨gb375, 0, none⟩)) := by rw [ha]; exact (putSel_off rfl).trans rfl
         have e25 : a.tmps[25]? = some (.bool true) := by rw [ha]; exact putSel_on (e := (22, 25, .bool true)) 22 rfl rfl (hon 22 (by kernel_rfl)) rfl
         replace ha := Aside0.mk ha
         have BK375 := Aside0.mk Q_BK375
         have HB := Aside0.mk Q_HB
         have HO384 := Aside0.mk (Q_HO384 (hon 5 (by kernel_rfl)))
         have HO394 := Aside0.mk (Q_HO394 (hon 14 (by kernel_rfl)))
         have hc0_ : w'.cell? ⟨gb375, 0, none⟩ = some (.int .i64 2) := (blk_cell BK375.out 0).trans rfl
         have hc1_ : w'.cell? ⟨gb375, 1, none⟩ = some (.int .i64 0) := (blk_cell BK375.out 1).trans rfl
         have hc2_ : w'.cell? ⟨gb375, 2, none⟩ = some (.int .i64 1) := (blk_cell BK375.out 2).trans rfl
         have hc3_ : w'.cell? ⟨gb375, 3, none⟩ = some (.int .i64 1) := (blk_cell BK375.out 3).trans rfl
         have hc4_ : w'.cell? ⟨gb375, 4, none⟩ = some (.int .i64 0) := (blk_cell BK375.out 4).trans rfl
         have hc5_ : w'.cell? ⟨gb375, 5, none⟩ = some (.int .i64 0) := (blk_cell BK375.out 5).trans rfl
         have hc6_ : w'.cell? ⟨gb375, 6, none⟩ = some (.bool false) := (blk_cell BK375.out 6).trans rfl
         have hc7_ : w'.cell? ⟨gb375, 7, none⟩ = some (.int .i64 0) := (blk_cell BK375.out 7).trans rfl
         have hc8_ : w'.cell? ⟨gb375, 8, none⟩ = some (.int .i64 1) := (blk_cell BK375.out 8).trans rfl
         have hc9_ : w'.cell? ⟨gb375, 9, none⟩ = some (.int .i64 1) := (blk_cell BK375.out 9).trans rfl
         have hc10_ : w'.cell? ⟨gb375, 10, none⟩ = some (.int .i64 0) := (blk_cell BK375.out 10).trans rfl
         have hc11_ : w'.cell? ⟨gb375, 11, none⟩ = some (.bool false) := (blk_cell BK375.out 11).trans rfl
         have hc12_ : w'.cell? ⟨gb375, 12, none⟩ = some (.int .i64 0) := (blk_cell BK375.out 12).trans rfl
         have hc13_ : w'.cell? ⟨gb375, 13, none⟩ = some (.slice none 0 0) := (blk_cell BK375.out 13).trans rfl
         refine value_ (w1 := w') (v := .agg #[.int .i64 2, .int .i64 0, .int .i64 1, .int .i64 1, .int .i64 0, .int .i64 0, .bool false, .int .i64 0, .int .i64 1, .int .i64 1, .int .i64 0, .bool false, .int .i64 0, .slice none 0 0]) (wanted_on rfl rfl rfl (e25.trans (by first | rfl | (simp [*]; done)))) rfl ?_ ?_
         ·go_simp
          (try simp only [i64_w])
          try rfl
         refine hK.out _ _ ⟨v377, v380, v383, v387, v390, v393, v399, v415, m36_, (by rw [ha.out]; exact putSel_upk 23 hb_ rfl rfl rfl), Q_BK375, Q_HB, fun _ h1_ => absurd ((hon 5 (by kernel_rfl)).symm.trans h1_) (by decide), fun _ h1_ => absurd ((hon 5 (by kernel_rfl)).symm.trans h1_) (by decide), Q_HO384, fun _ h1_ => absurd ((hon 14 (by kernel_rfl)).symm.trans h1_) (by decide), fun _ h1_ => absurd ((hon 14 (by kernel_rfl)).symm.trans h1_) (by decide), Q_HO394, fun h0_ => absurd ((hoff 29 (by kernel_rfl)).symm.trans h0_) (by decide), fun h0_ => absurd ((hoff 36 (by kernel_rfl)).symm.trans h0_) (by decide), fun h0_ => absurd ((hoff 36 (by kernel_rfl)).symm.trans h0_) (by decide)⟩
        refine steps_cons ?_ ?_
        ·rintro b a w' ⟨v377, v380, v383, v387, v390, v393, v399, v415, m36_, ha, Q_BK375, Q_HB, Q_HO378, Q_HO381, Q_HO384, Q_HO388, Q_HO391, Q_HO394, Q_HO400, Q_HO416, Q_X36_⟩ hb_ hon hoff
         refine ⟨_, rfl, fun K hK => ?_⟩
         have e26 : a.tmps[26]? = some (.agg #[.int .i64 2, .int .i64 0, .int .i64 1, .int .i64 1, .int .i64 0, .int .i64 0, .bool false, .int .i64 0, .int .i64 1, .int .i64 1, .int .i64 0, .bool false, .int .i64 0, .slice none 0 0]) := by rw [ha]; exact putSel_on (e := (23, 26, .agg #[.int .i64 2, .int .i64 0, .int .i64 1, .int .i64 1, .int .i64 0, .int .i64 0, .bool false, .int .i64 0, .int .i64 1, .int .i64 1, .int .i64 0, .bool false, .int .i64 0, .slice none 0 0])) 23 rfl rfl (hon 23 (by kernel_rfl)) rfl
         have e25 : a.tmps[25]? = some (.bool true) := by rw [ha]; exact putSel_on (e := (22, 25, .bool true)) 22 rfl rfl (hon 22 (by kernel_rfl)) rfl
         replace ha := Aside0.mk ha
         have BK375 := Aside0.mk Q_BK375
         have HB := Aside0.mk Q_HB
         have HO384 := Aside0.mk (Q_HO384 (hon 5 (by kernel_rfl)))
         have HO394 := Aside0.mk (Q_HO394 (hon 14 (by kernel_rfl)))
         refine goes_ Try.func42 (by kernel_rfl) rfl #[.agg #[.int .i64 2, .int .i64 0, .int .i64 1, .int .i64 1, .int .i64 0, .int .i64 0, .bool false, .int .i64 0, .int .i64 1, .int .i64 1, .int .i64 0, .bool false, .int .i64 0, .slice none 0 0]] (by (first | rfl | exact wanted_on rfl rfl rfl (e11.trans (by first | rfl | (simp [*]; done))) | exact wanted_on rfl rfl rfl (e21.trans (by first | rfl | (simp [*]; done))) | exact wanted_on rfl rfl rfl (e25.trans (by first | rfl | (simp [*]; done))) | exact wanted_on rfl rfl rfl (e30.trans (by first | rfl | (simp [*]; done))) | exact wanted_on rfl rfl rfl (e36.trans (by first | rfl | (simp [*]; done))) | exact wanted_on rfl rfl rfl (e42.trans (by first | rfl | (simp [*]; done))))) rfl rfl (by first | (simp only [List.map_toArray, List.map_cons, List.map_nil, Act.eval, Array.getD_eq_getD_getElem?, Option.getD_some, e26, e25]; done) | (simp only [List.map_toArray, List.map_cons, List.map_nil, Act.eval, Array.getD_eq_getD_getElem?, Option.getD_some, e26, e25]; rfl)) ?_
         refine (pred_Tables.calls k 2 0 1 1 0 0 false 0 1 1 0 false 0 _ _ ([] : List (S46)) t397 _ ?side1 ?side2 A8.out).mono ?_
         (case side1 => exact Kd.C_nil _ _)
         (case side2 => exact Nat.le_refl _)
         rintro e w43 ⟨rfl, hb⟩
         refine ⟨_, rfl, ?_⟩
         have n0_ := Aside0.mk (Kd.N_below (by (with_reducible repeat (first | apply Kd.N_alloc | apply Kd.N_drewN | apply Kd.N_drew)); exact HO384.out) hb)
         have n1_ := Aside0.mk (Kd.N_below (by (with_reducible repeat (first | apply Kd.N_alloc | apply Kd.N_drewN | apply Kd.N_drew)); exact HO394.out) hb)
         have n2_ := Aside0.mk (blk_below (by (with_reducible repeat (first | refine blk_drewN ?_ _ | refine blk_drew ?_ | refine blk_alloc ?_ _)); exact BK375.out) hb)
         have n3_ := Aside0.mk (below_step (by repeat (first | (with_reducible first | exact HB.out | apply below_alloc | apply pw_below_drewN | apply below_drew1 | refine below_set ?_ GE375.out) | exact HB.out)) hb)
         clear HO384
         clear HO394
         clear BK375
         clear HB
         have HO384 := n0_
         have HO394 := n1_
         have BK375 := n2_
         have HB := n3_
         clear n0_ n1_ n2_ n3_
         (try clear hb)
         (try clear hb2)
         (try clear hk)
         (try clear hi)
         refine hK.out _ _ ⟨v377, v380, v383, v387, v390, v393, v399, v415, m36_, (by rw [ha.out]; exact putSel_upk 24 hb_ rfl rfl rfl), (by (with_reducible repeat (first | refine blk_drewN ?_ _ | refine blk_drew ?_ | refine blk_alloc ?_ _)); exact BK375.out), (by repeat (first | (with_reducible first | exact HB.out | apply below_alloc | apply pw_below_drewN | apply below_drew1 | refine below_set ?_ GE375.out) | exact HB.out)), fun _ h1_ => absurd ((hon 5 (by kernel_rfl)).symm.trans h1_) (by decide), fun _ h1_ => absurd ((hon 5 (by kernel_rfl)).symm.trans h1_) (by decide), fun _ => (by (with_reducible repeat (first | apply Kd.N_alloc | apply Kd.N_drewN | apply Kd.N_drew)); first | exact HO384.out | exact Kd.N_mono HO384.out (fun _ hk => by first | exact hk.1 | exact hk.2 | exact hk.2.2 | exact hk.1.2 | exact hk.1.2.2 | exact hk.2.1 | exact hk.2.2.2)), fun _ h1_ => absurd ((hon 14 (by kernel_rfl)).symm.trans h1_) (by decide), fun _ h1_ => absurd ((hon 14 (by kernel_rfl)).symm.trans h1_) (by decide), fun _ => (by (with_reducible repeat (first | apply Kd.N_alloc | apply Kd.N_drewN | apply Kd.N_drew)); first | exact HO394.out | exact Kd.N_mono HO394.out (fun _ hk => by first | exact hk.1 | exact hk.2 | exact hk.2.2 | exact hk.1.2 | exact hk.1.2.2 | exact hk.2.1 | exact hk.2.2.2)), fun h0_ => absurd ((hoff 29 (by kernel_rfl)).symm.trans h0_) (by decide), fun h0_ => absurd ((hoff 36 (by kernel_rfl)).symm.trans h0_) (by decide), fun h0_ => absurd ((hoff 36 (by kernel_rfl)).symm.trans h0_) (by decide)⟩
        refine steps_cons ?_ ?_
        ·rintro b a w' ⟨v377, v380, v383, v387, v390, v393, v399, v415, m36_, ha, Q_BK375, Q_HB, Q_HO378, Q_HO381, Q_HO384, Q_HO388, Q_HO391, Q_HO394, Q_HO400, Q_HO416, Q_X36_⟩ hb_ hon hoff
         refine ⟨_, rfl, fun K hK => ?_⟩
         have e27 : a.tmps[27]? = some (.int .u64 t397) := by rw [ha]; exact putSel_on (e := (24, 27, .int .u64 t397)) 24 rfl rfl (hon 24 (by kernel_rfl)) rfl
         have e25 : a.tmps[25]? = some (.bool true) := by rw [ha]; exact putSel_on (e := (22, 25, .bool true)) 22 rfl rfl (hon 22 (by kernel_rfl)) rfl
         replace ha := Aside0.mk ha
         have BK375 := Aside0.mk Q_BK375
         have HB := Aside0.mk Q_HB
         have HO384 := Aside0.mk (Q_HO384 (hon 5 (by kernel_rfl)))
         have HO394 := Aside0.mk (Q_HO394 (hon 14 (by kernel_rfl)))
         refine value_ (w1 := w') (v := .bool (t397 == 3)) (wanted_on rfl rfl rfl (e25.trans (by first | rfl | (simp [*]; done)))) rfl ?_ ?_
         ·go_simp
          (try simp only [i64_w])
          try rfl
         refine hK.out _ _ ⟨v377, v380, v383, v387, v390, v393, v399, v415, m36_, (by rw [ha.out]; exact putSel_upk 25 hb_ rfl rfl rfl), Q_BK375, Q_HB, fun _ h1_ => absurd ((hon 5 (by kernel_rfl)).symm.trans h1_) (by decide), fun _ h1_ => absurd ((hon 5 (by kernel_rfl)).symm.trans h1_) (by decide), Q_HO384, fun _ h1_ => absurd ((hon 14 (by kernel_rfl)).symm.trans h1_) (by decide), fun _ h1_ => absurd ((hon 14 (by kernel_rfl)).symm.trans h1_) (by decide), Q_HO394, fun h0_ => absurd ((hoff 29 (by kernel_rfl)).symm.trans h0_) (by decide), fun h0_ => absurd ((hoff 36 (by kernel_rfl)).symm.trans h0_) (by decide), fun h0_ => absurd ((hoff 36 (by kernel_rfl)).symm.trans h0_) (by decide)⟩
        refine steps_cons ?_ ?_
        ·rintro b a w' ⟨v377, v380, v383, v387, v390, v393, v399, v415, m36_, ha, Q_BK375, Q_HB, Q_HO378, Q_HO381, Q_HO384, Q_HO388, Q_HO391, Q_HO394, Q_HO400, Q_HO416, Q_X36_⟩ hb_ hon hoff
         refine ⟨_, rfl, fun K hK => ?_⟩
         have e25 : a.tmps[25]? = some (.bool true) := by rw [ha]; exact putSel_on (e := (22, 25, .bool true)) 22 rfl rfl (hon 22 (by kernel_rfl)) rfl
         have e28 : a.tmps[28]? = some (.bool (t397 == 3)) := by rw [ha]; exact putSel_on (e := (25, 28, .bool (t397 == 3))) 25 rfl rfl (hon 25 (by kernel_rfl)) rfl
         replace ha := Aside0.mk ha
         have BK375 := Aside0.mk Q_BK375
         have HB := Aside0.mk Q_HB
         have HO384 := Aside0.mk (Q_HO384 (hon 5 (by kernel_rfl)))
         have HO394 := Aside0.mk (Q_HO394 (hon 14 (by kernel_rfl)))
         refine value_ (w1 := w') (v := .bool (t397 == 3)) (by rfl) rfl ?_ ?_
         ·go_simp
          (try simp only [i64_w])
          try rfl
         refine hK.out _ _ ⟨v377, v380, v383, v387, v390, v393, v399, v415, m36_, (by rw [ha.out]; exact putSel_upk 26 hb_ rfl rfl rfl), Q_BK375, Q_HB, fun _ h1_ => absurd ((hon 5 (by kernel_rfl)).symm.trans h1_) (by decide), fun _ h1_ => absurd ((hon 5 (by kernel_rfl)).symm.trans h1_) (by decide), Q_HO384, fun _ h1_ => absurd ((hon 14 (by kernel_rfl)).symm.trans h1_) (by decide), fun _ h1_ => absurd ((hon 14 (by kernel_rfl)).symm.trans h1_) (by decide), Q_HO394, fun h0_ => absurd ((hoff 29 (by kernel_rfl)).symm.trans h0_) (by decide), fun h0_ => absurd ((hoff 36 (by kernel_rfl)).symm.trans h0_) (by decide), fun h0_ => absurd ((hoff 36 (by kernel_rfl)).symm.trans h0_) (by decide)⟩
        refine steps_cons ?_ ?_
        ·rintro b a w' ⟨v377, v380, v383, v387, v390, v393, v399, v415, m36_, ha, Q_BK375, Q_HB, Q_HO378, Q_HO381, Q_HO384, Q_HO388, Q_HO391, Q_HO394, Q_HO400, Q_HO416, Q_X36_⟩ hb_ hon hoff
         refine ⟨_, rfl, fun K hK => ?_⟩
         have e29 : a.tmps[29]? = some (.bool (t397 == 3)) := by rw [ha]; exact putSel_on (e := (26, 29, .bool (t397 == 3))) 26 rfl rfl (hon 26 (by kernel_rfl)) rfl
         replace ha := Aside0.mk ha
         have BK375 := Aside0.mk Q_BK375
         have HB := Aside0.mk Q_HB
         have HO384 := Aside0.mk (Q_HO384 (hon 5 (by kernel_rfl)))
         have HO394 := Aside0.mk (Q_HO394 (hon 14 (by kernel_rfl)))
         refine value_ (w1 := w') (v := .bool (t397 == 3)) (by rfl) rfl ?_ ?_
         ·go_simp
          (try simp only [i64_w])
          try rfl
         refine hK.out _ _ ⟨v377, v380, v383, v387, v390, v393, v399, v415, m36_, (by rw [ha.out]; exact putSel_upk 27 hb_ rfl rfl rfl), Q_BK375, Q_HB, fun _ h1_ => absurd ((hon 5 (by kernel_rfl)).symm.trans h1_) (by decide), fun _ h1_ => absurd ((hon 5 (by kernel_rfl)).symm.trans h1_) (by decide), Q_HO384, fun _ h1_ => absurd ((hon 14 (by kernel_rfl)).symm.trans h1_) (by decide), fun _ h1_ => absurd ((hon 14 (by kernel_rfl)).symm.trans h1_) (by decide), Q_HO394, fun h0_ => absurd ((hoff 29 (by kernel_rfl)).symm.trans h0_) (by decide), fun h0_ => absurd ((hoff 36 (by kernel_rfl)).symm.trans h0_) (by decide), fun h0_ => absurd ((hoff 36 (by kernel_rfl)).symm.trans h0_) (by decide)⟩
        refine steps_cons ?_ ?_
        ·rintro b a w' ⟨v377, v380, v383, v387, v390, v393, v399, v415, m36_, ha, Q_BK375, Q_HB, Q_HO378, Q_HO381, Q_HO384, Q_HO388, Q_HO391, Q_HO394, Q_HO400, Q_HO416, Q_X36_⟩ hb_ hon hoff
         refine ⟨_, rfl, fun K hK => ?_⟩
         have e1 : a.tmps[1]? = some (.pointer (some ⟨gb375, 0, none⟩)) := by rw [ha]; exact (putSel_off rfl).trans rfl
         have e30 : a.tmps[30]? = some (.bool (t397 == 3)) := by rw [ha]; exact putSel_on (e := (27, 30, .bool (t397 == 3))) 27 rfl rfl (hon 27 (by kernel_rfl)) rfl
         replace ha := Aside0.mk ha
         have BK375 := Aside0.mk Q_BK375
         have HB := Aside0.mk Q_HB
         have HO384 := Aside0.mk (Q_HO384 (hon 5 (by kernel_rfl)))
         have HO394 := Aside0.mk (Q_HO394 (hon 14 (by kernel_rfl)))
         have hc0_ : w'.cell? ⟨gb375, 0, none⟩ = some (.int .i64 2) := (blk_cell BK375.out 0).trans rfl
         have hc1_ : w'.cell? ⟨gb375, 1, none⟩ = some (.int .i64 0) := (blk_cell BK375.out 1).trans rfl
         have hc2_ : w'.cell? ⟨gb375, 2, none⟩ = some (.int .i64 1) := (blk_cell BK375.out 2).trans rfl
         have hc3_ : w'.cell? ⟨gb375, 3, none⟩ = some (.int .i64 1) := (blk_cell BK375.out 3).trans rfl
         have hc4_ : w'.cell? ⟨gb375, 4, none⟩ = some (.int .i64 0) := (blk_cell BK375.out 4).trans rfl
         have hc5_ : w'.cell? ⟨gb375, 5, none⟩ = some (.int .i64 0) := (blk_cell BK375.out 5).trans rfl
         have hc6_ : w'.cell? ⟨gb375, 6, none⟩ = some (.bool false) := (blk_cell BK375.out 6).trans rfl
         have hc7_ : w'.cell? ⟨gb375, 7, none⟩ = some (.int .i64 0) := (blk_cell BK375.out 7).trans rfl
         have hc8_ : w'.cell? ⟨gb375, 8, none⟩ = some (.int .i64 1) := (blk_cell BK375.out 8).trans rfl
         have hc9_ : w'.cell? ⟨gb375, 9, none⟩ = some (.int .i64 1) := (blk_cell BK375.out 9).trans rfl
         have hc10_ : w'.cell? ⟨gb375, 10, none⟩ = some (.int .i64 0) := (blk_cell BK375.out 10).trans rfl
         have hc11_ : w'.cell? ⟨gb375, 11, none⟩ = some (.bool false) := (blk_cell BK375.out 11).trans rfl
         have hc12_ : w'.cell? ⟨gb375, 12, none⟩ = some (.int .i64 0) := (blk_cell BK375.out 12).trans rfl
         have hc13_ : w'.cell? ⟨gb375, 13, none⟩ = some (.slice none 0 0) := (blk_cell BK375.out 13).trans rfl
         refine value_ (w1 := w') (v := .agg #[.int .i64 2, .int .i64 0, .int .i64 1, .int .i64 1, .int .i64 0, .int .i64 0, .bool false, .int .i64 0, .int .i64 1, .int .i64 1, .int .i64 0, .bool false, .int .i64 0, .slice none 0 0]) (wanted_on rfl rfl rfl (e30.trans (by first | rfl | (simp [*]; done)))) rfl ?_ ?_
         ·go_simp
          (try simp only [i64_w])
          try rfl
         refine hK.out _ _ ⟨v377, v380, v383, v387, v390, v393, v399, v415, m36_, (by rw [ha.out]; exact putSel_upk 28 hb_ rfl rfl rfl), Q_BK375, Q_HB, fun _ h1_ => absurd ((hon 5 (by kernel_rfl)).symm.trans h1_) (by decide), fun _ h1_ => absurd ((hon 5 (by kernel_rfl)).symm.trans h1_) (by decide), Q_HO384, fun _ h1_ => absurd ((hon 14 (by kernel_rfl)).symm.trans h1_) (by decide), fun _ h1_ => absurd ((hon 14 (by kernel_rfl)).symm.trans h1_) (by decide), Q_HO394, fun h0_ => absurd ((hoff 29 (by kernel_rfl)).symm.trans h0_) (by decide), fun h0_ => absurd ((hoff 36 (by kernel_rfl)).symm.trans h0_) (by decide), fun h0_ => absurd ((hoff 36 (by kernel_rfl)).symm.trans h0_) (by decide)⟩
        refine steps_cons ?_ ?_
        ·rintro b a w' ⟨v377, v380, v383, v387, v390, v393, v399, v415, m36_, ha, Q_BK375, Q_HB, Q_HO378, Q_HO381, Q_HO384, Q_HO388, Q_HO391, Q_HO394, Q_HO400, Q_HO416, Q_X36_⟩ hb_ hon hoff
         refine ⟨_, rfl, fun K hK => ?_⟩
         have e31 : a.tmps[31]? = some (.agg #[.int .i64 2, .int .i64 0, .int .i64 1, .int .i64 1, .int .i64 0, .int .i64 0, .bool false, .int .i64 0, .int .i64 1, .int .i64 1, .int .i64 0, .bool false, .int .i64 0, .slice none 0 0]) := by rw [ha]; exact putSel_on (e := (28, 31, .agg #[.int .i64 2, .int .i64 0, .int .i64 1, .int .i64 1, .int .i64 0, .int .i64 0, .bool false, .int .i64 0, .int .i64 1, .int .i64 1, .int .i64 0, .bool false, .int .i64 0, .slice none 0 0])) 28 rfl rfl (hon 28 (by kernel_rfl)) rfl
         have e30 : a.tmps[30]? = some (.bool (t397 == 3)) := by rw [ha]; exact putSel_on (e := (27, 30, .bool (t397 == 3))) 27 rfl rfl (hon 27 (by kernel_rfl)) rfl
         replace ha := Aside0.mk ha
         have BK375 := Aside0.mk Q_BK375
         have HB := Aside0.mk Q_HB
         have HO384 := Aside0.mk (Q_HO384 (hon 5 (by kernel_rfl)))
         have HO394 := Aside0.mk (Q_HO394 (hon 14 (by kernel_rfl)))
         refine goes_ Try.func35 (by kernel_rfl) rfl #[.agg #[.int .i64 2, .int .i64 0, .int .i64 1, .int .i64 1, .int .i64 0, .int .i64 0, .bool false, .int .i64 0, .int .i64 1, .int .i64 1, .int .i64 0, .bool false, .int .i64 0, .slice none 0 0]] (by (first | rfl | exact wanted_on rfl rfl rfl (e11.trans (by first | rfl | (simp [*]; done))) | exact wanted_on rfl rfl rfl (e21.trans (by first | rfl | (simp [*]; done))) | exact wanted_on rfl rfl rfl (e25.trans (by first | rfl | (simp [*]; done))) | exact wanted_on rfl rfl rfl (e30.trans (by first | rfl | (simp [*]; done))) | exact wanted_on rfl rfl rfl (e36.trans (by first | rfl | (simp [*]; done))) | exact wanted_on rfl rfl rfl (e42.trans (by first | rfl | (simp [*]; done))))) rfl rfl (by first | (simp only [List.map_toArray, List.map_cons, List.map_nil, Act.eval, Array.getD_eq_getD_getElem?, Option.getD_some, e31, e30]; done) | (simp only [List.map_toArray, List.map_cons, List.map_nil, Act.eval, Array.getD_eq_getD_getElem?, Option.getD_some, e31, e30]; rfl)) ?_
         refine (pred_Columns.calls k 2 0 1 1 0 0 false 0 1 1 0 false 0 _ _ ([] : List (S46)) t398 _ ?side1 ?side2 A10.out).mono ?_
         (case side1 => exact Kd.C_nil _ _)
         (case side2 => exact Nat.le_refl _)
         rintro e w44 ⟨v399, rfl, ho0, hb⟩
         refine ⟨_, rfl, ?_⟩
         have n0_ := Aside0.mk (Kd.N_elder' (by (with_reducible repeat (first | apply Kd.N_alloc | apply Kd.N_drewN | apply Kd.N_drew)); exact HO384.out) (Kd.R_base ho0) hb)
         have n1_ := Aside0.mk (Kd.N_elder' (by (with_reducible repeat (first | apply Kd.N_alloc | apply Kd.N_drewN | apply Kd.N_drew)); exact HO394.out) (Kd.R_base ho0) hb)
         have n2_ := Aside0.mk (Kd.R_lower ho0 (below_size (by repeat (first | (with_reducible first | exact HB.out | apply below_alloc | apply pw_below_drewN | apply below_drew1 | refine below_set ?_ GE375.out) | exact HB.out))))
         have n3_ := Aside0.mk (blk_below (by (with_reducible repeat (first | refine blk_drewN ?_ _ | refine blk_drew ?_ | refine blk_alloc ?_ _)); exact BK375.out) hb)
         have n4_ := Aside0.mk (below_step (by repeat (first | (with_reducible first | exact HB.out | apply below_alloc | apply pw_below_drewN | apply below_drew1 | refine below_set ?_ GE375.out) | exact HB.out)) hb)
         clear HO384
         clear HO394
         clear BK375
         clear HB
         have HO384 := n0_
         have HO394 := n1_
         have HO400 := n2_
         have BK375 := n3_
         have HB := n4_
         clear n0_ n1_ n2_ n3_ n4_
         (try clear hb)
         (try clear hb2)
         (try clear hk)
         (try clear hi)
         (try clear ho0)
         obtain ⟨Ao45, co45, eo45⟩ := Kd.R_slice HO400.out
         (first | subst eo45 | (injection eo45 with f1_ f2_ f3_; have f4_ := f1_.symm; have f5_ := f3_.symm; clear f1_ f2_ f3_; subst f4_; subst f5_))
         refine hK.out _ _ ⟨v377, v380, v383, v387, v390, v393, .slice Ao45 t398.length co45, v415, m36_, (by rw [ha.out]; exact putSel_upk 29 hb_ rfl rfl rfl), (by (with_reducible repeat (first | refine blk_drewN ?_ _ | refine blk_drew ?_ | refine blk_alloc ?_ _)); exact BK375.out), (by repeat (first | (with_reducible first | exact HB.out | apply below_alloc | apply pw_below_drewN | apply below_drew1 | refine below_set ?_ GE375.out) | exact HB.out)), fun _ h1_ => absurd ((hon 5 (by kernel_rfl)).symm.trans h1_) (by decide), fun _ h1_ => absurd ((hon 5 (by kernel_rfl)).symm.trans h1_) (by decide), fun _ => (by (with_reducible repeat (first | apply Kd.N_alloc | apply Kd.N_drewN | apply Kd.N_drew)); first | exact HO384.out | exact Kd.N_mono HO384.out (fun _ hk => by first | exact hk.1 | exact hk.2 | exact hk.2.2 | exact hk.1.2 | exact hk.1.2.2 | exact hk.2.1 | exact hk.2.2.2)), fun _ h1_ => absurd ((hon 14 (by kernel_rfl)).symm.trans h1_) (by decide), fun _ h1_ => absurd ((hon 14 (by kernel_rfl)).symm.trans h1_) (by decide), fun _ => (by (with_reducible repeat (first | apply Kd.N_alloc | apply Kd.N_drewN | apply Kd.N_drew)); first | exact HO394.out | exact Kd.N_mono HO394.out (fun _ hk => by first | exact hk.1 | exact hk.2 | exact hk.2.2 | exact hk.1.2 | exact hk.1.2.2 | exact hk.2.1 | exact hk.2.2.2)), fun _ => (by (with_reducible repeat (first | apply Kd.R_alloc | apply Kd.R_drewN | apply Kd.R_drew)); exact HO400.out), fun h0_ => absurd ((hoff 36 (by kernel_rfl)).symm.trans h0_) (by decide), fun h0_ => absurd ((hoff 36 (by kernel_rfl)).symm.trans h0_) (by decide)⟩
        refine steps_cons ?_ ?_
        ·rintro b a w' ⟨v377, v380, v383, v387, v390, v393, v399, v415, m36_, ha, Q_BK375, Q_HB, Q_HO378, Q_HO381, Q_HO384, Q_HO388, Q_HO391, Q_HO394, Q_HO400, Q_HO416, Q_X36_⟩ hb_ hon hoff
         refine ⟨_, rfl, fun K hK => ?_⟩
         have e32 : a.tmps[32]? = some (v399) := by rw [ha]; exact putSel_on (e := (29, 32, v399)) 29 rfl rfl (hon 29 (by kernel_rfl)) rfl
         have e30 : a.tmps[30]? = some (.bool (t397 == 3)) := by rw [ha]; exact putSel_on (e := (27, 30, .bool (t397 == 3))) 27 rfl rfl (hon 27 (by kernel_rfl)) rfl
         replace ha := Aside0.mk ha
         have BK375 := Aside0.mk Q_BK375
         have HB := Aside0.mk Q_HB
         have HO384 := Aside0.mk (Q_HO384 (hon 5 (by kernel_rfl)))
         have HO394 := Aside0.mk (Q_HO394 (hon 14 (by kernel_rfl)))
         have HO400 := Aside0.mk (Q_HO400 (hon 29 (by kernel_rfl)))
         obtain ⟨Ao30_0, co30_0, eo_⟩ := Kd.R_slice HO400.out
         subst eo_
         refine value_ (w1 := w') (v := .int .i64 (t398.length : Int)) (wanted_on rfl rfl rfl (e30.trans (by first | rfl | (simp [*]; done)))) rfl ?_ ?_
         ·go_simp
          (try simp only [i64_w])
          try rfl
         refine hK.out _ _ ⟨v377, v380, v383, v387, v390, v393, .slice Ao30_0 t398.length co30_0, v415, m36_, (by rw [ha.out]; exact putSel_upk 30 hb_ rfl rfl rfl), Q_BK375, Q_HB, fun _ h1_ => absurd ((hon 5 (by kernel_rfl)).symm.trans h1_) (by decide), fun _ h1_ => absurd ((hon 5 (by kernel_rfl)).symm.trans h1_) (by decide), Q_HO384, fun _ h1_ => absurd ((hon 14 (by kernel_rfl)).symm.trans h1_) (by decide), fun _ h1_ => absurd ((hon 14 (by kernel_rfl)).symm.trans h1_) (by decide), Q_HO394, Q_HO400, fun h0_ => absurd ((hoff 36 (by kernel_rfl)).symm.trans h0_) (by decide), fun h0_ => absurd ((hoff 36 (by kernel_rfl)).symm.trans h0_) (by decide)⟩
        refine steps_cons ?_ ?_
        ·rintro b a w' ⟨v377, v380, v383, v387, v390, v393, v399, v415, m36_, ha, Q_BK375, Q_HB, Q_HO378, Q_HO381, Q_HO384, Q_HO388, Q_HO391, Q_HO394, Q_HO400, Q_HO416, Q_X36_⟩ hb_ hon hoff
         refine ⟨_, rfl, fun K hK => ?_⟩
         have e33 : a.tmps[33]? = some (.int .i64 (t398.length : Int)) := by rw [ha]; exact putSel_on (e := (30, 33, .int .i64 (t398.length : Int))) 30 rfl rfl (hon 30 (by kernel_rfl)) rfl
         have e30 : a.tmps[30]? = some (.bool (t397 == 3)) := by rw [ha]; exact putSel_on (e := (27, 30, .bool (t397 == 3))) 27 rfl rfl (hon 27 (by kernel_rfl)) rfl
         replace ha := Aside0.mk ha
         have BK375 := Aside0.mk Q_BK375
         have HB := Aside0.mk Q_HB
         have HO384 := Aside0.mk (Q_HO384 (hon 5 (by kernel_rfl)))
         have HO394 := Aside0.mk (Q_HO394 (hon 14 (by kernel_rfl)))
         have HO400 := Aside0.mk (Q_HO400 (hon 29 (by kernel_rfl)))
         refine value_ (w1 := w') (v := .bool ((t398.length : Int) == 2)) (wanted_on rfl rfl rfl (e30.trans (by first | rfl | (simp [*]; done)))) rfl ?_ ?_
         ·go_simp
          (try simp only [i64_w])
          try rfl
         refine hK.out _ _ ⟨v377, v380, v383, v387, v390, v393, v399, v415, m36_, (by rw [ha.out]; exact putSel_upk 31 hb_ rfl rfl rfl), Q_BK375, Q_HB, fun _ h1_ => absurd ((hon 5 (by kernel_rfl)).symm.trans h1_) (by decide), fun _ h1_ => absurd ((hon 5 (by kernel_rfl)).symm.trans h1_) (by decide), Q_HO384, fun _ h1_ => absurd ((hon 14 (by kernel_rfl)).symm.trans h1_) (by decide), fun _ h1_ => absurd ((hon 14 (by kernel_rfl)).symm.trans h1_) (by decide), Q_HO394, Q_HO400, fun h0_ => absurd ((hoff 36 (by kernel_rfl)).symm.trans h0_) (by decide), fun h0_ => absurd ((hoff 36 (by kernel_rfl)).symm.trans h0_) (by decide)⟩
        refine steps_cons ?_ ?_
        ·rintro b a w' ⟨v377, v380, v383, v387, v390, v393, v399, v415, m36_, ha, Q_BK375, Q_HB, Q_HO378, Q_HO381, Q_HO384, Q_HO388, Q_HO391, Q_HO394, Q_HO400, Q_HO416, Q_X36_⟩ hb_ hon hoff
         refine ⟨_, rfl, fun K hK => ?_⟩
         have e30 : a.tmps[30]? = some (.bool (t397 == 3)) := by rw [ha]; exact putSel_on (e := (27, 30, .bool (t397 == 3))) 27 rfl rfl (hon 27 (by kernel_rfl)) rfl
         have e34 : a.tmps[34]? = some (.bool ((t398.length : Int) == 2)) := by rw [ha]; exact putSel_on (e := (31, 34, .bool ((t398.length : Int) == 2))) 31 rfl rfl (hon 31 (by kernel_rfl)) rfl
         replace ha := Aside0.mk ha
         have BK375 := Aside0.mk Q_BK375
         have HB := Aside0.mk Q_HB
         have HO384 := Aside0.mk (Q_HO384 (hon 5 (by kernel_rfl)))
         have HO394 := Aside0.mk (Q_HO394 (hon 14 (by kernel_rfl)))
         have HO400 := Aside0.mk (Q_HO400 (hon 29 (by kernel_rfl)))
         refine value_ (w1 := w') (v := .bool ((t398.length : Int) == 2)) (by rfl) rfl ?_ ?_
         ·go_simp
          (try simp only [i64_w])
          try rfl
         refine hK.out _ _ ⟨v377, v380, v383, v387, v390, v393, v399, v415, m36_, (by rw [ha.out]; exact putSel_upk 32 hb_ rfl rfl rfl), Q_BK375, Q_HB, fun _ h1_ => absurd ((hon 5 (by kernel_rfl)).symm.trans h1_) (by decide), fun _ h1_ => absurd ((hon 5 (by kernel_rfl)).symm.trans h1_) (by decide), Q_HO384, fun _ h1_ => absurd ((hon 14 (by kernel_rfl)).symm.trans h1_) (by decide), fun _ h1_ => absurd ((hon 14 (by kernel_rfl)).symm.trans h1_) (by decide), Q_HO394, Q_HO400, fun h0_ => absurd ((hoff 36 (by kernel_rfl)).symm.trans h0_) (by decide), fun h0_ => absurd ((hoff 36 (by kernel_rfl)).symm.trans h0_) (by decide)⟩
        refine steps_cons ?_ ?_
        ·rintro b a w' ⟨v377, v380, v383, v387, v390, v393, v399, v415, m36_, ha, Q_BK375, Q_HB, Q_HO378, Q_HO381, Q_HO384, Q_HO388, Q_HO391, Q_HO394, Q_HO400, Q_HO416, Q_X36_⟩ hb_ hon hoff
         refine ⟨_, rfl, fun K hK => ?_⟩
         have e35 : a.tmps[35]? = some (.bool ((t398.length : Int) == 2)) := by rw [ha]; exact putSel_on (e := (32, 35, .bool ((t398.length : Int) == 2))) 32 rfl rfl (hon 32 (by kernel_rfl)) rfl
         replace ha := Aside0.mk ha
         have BK375 := Aside0.mk Q_BK375
         have HB := Aside0.mk Q_HB
         have HO384 := Aside0.mk (Q_HO384 (hon 5 (by kernel_rfl)))
         have HO394 := Aside0.mk (Q_HO394 (hon 14 (by kernel_rfl)))
         have HO400 := Aside0.mk (Q_HO400 (hon 29 (by kernel_rfl)))
         refine value_ (w1 := w') (v := .bool ((t398.length : Int) == 2)) (by rfl) rfl ?_ ?_
         ·go_simp
          (try simp only [i64_w])
          try rfl
         refine hK.out _ _ ⟨v377, v380, v383, v387, v390, v393, v399, v415, m36_, (by rw [ha.out]; exact putSel_upk 33 hb_ rfl rfl rfl), Q_BK375, Q_HB, fun _ h1_ => absurd ((hon 5 (by kernel_rfl)).symm.trans h1_) (by decide), fun _ h1_ => absurd ((hon 5 (by kernel_rfl)).symm.trans h1_) (by decide), Q_HO384, fun _ h1_ => absurd ((hon 14 (by kernel_rfl)).symm.trans h1_) (by decide), fun _ h1_ => absurd ((hon 14 (by kernel_rfl)).symm.trans h1_) (by decide), Q_HO394, Q_HO400, fun h0_ => absurd ((hoff 36 (by kernel_rfl)).symm.trans h0_) (by decide), fun h0_ => absurd ((hoff 36 (by kernel_rfl)).symm.trans h0_) (by decide)⟩
        refine steps_cons ?_ ?_
        ·rintro b a w' ⟨v377, v380, v383, v387, v390, v393, v399, v415, m36_, ha, Q_BK375, Q_HB, Q_HO378, Q_HO381, Q_HO384, Q_HO388, Q_HO391, Q_HO394, Q_HO400, Q_HO416, Q_X36_⟩ hb_ hon hoff
         refine ⟨_, rfl, fun K hK => ?_⟩
         have e1 : a.tmps[1]? = some (.pointer (some ⟨gb375, 0, none⟩)) := by rw [ha]; exact (putSel_off rfl).trans rfl
         have e36 : a.tmps[36]? = some (.bool ((t398.length : Int) == 2)) := by rw [ha]; exact putSel_on (e := (33, 36, .bool ((t398.length : Int) == 2))) 33 rfl rfl (hon 33 (by kernel_rfl)) rfl
         replace ha := Aside0.mk ha
         have BK375 := Aside0.mk Q_BK375
         have HB := Aside0.mk Q_HB
         have HO384 := Aside0.mk (Q_HO384 (hon 5 (by kernel_rfl)))
         have HO394 := Aside0.mk (Q_HO394 (hon 14 (by kernel_rfl)))
         have HO400 := Aside0.mk (Q_HO400 (hon 29 (by kernel_rfl)))
         have hc0_ : w'.cell? ⟨gb375, 0, none⟩ = some (.int .i64 2) := (blk_cell BK375.out 0).trans rfl
         have hc1_ : w'.cell? ⟨gb375, 1, none⟩ = some (.int .i64 0) := (blk_cell BK375.out 1).trans rfl
         have hc2_ : w'.cell? ⟨gb375, 2, none⟩ = some (.int .i64 1) := (blk_cell BK375.out 2).trans rfl
         have hc3_ : w'.cell? ⟨gb375, 3, none⟩ = some (.int .i64 1) := (blk_cell BK375.out 3).trans rfl
         have hc4_ : w'.cell? ⟨gb375, 4, none⟩ = some (.int .i64 0) := (blk_cell BK375.out 4).trans rfl
         have hc5_ : w'.cell? ⟨gb375, 5, none⟩ = some (.int .i64 0) := (blk_cell BK375.out 5).trans rfl
         have hc6_ : w'.cell? ⟨gb375, 6, none⟩ = some (.bool false) := (blk_cell BK375.out 6).trans rfl
         have hc7_ : w'.cell? ⟨gb375, 7, none⟩ = some (.int .i64 0) := (blk_cell BK375.out 7).trans rfl
         have hc8_ : w'.cell? ⟨gb375, 8, none⟩ = some (.int .i64 1) := (blk_cell BK375.out 8).trans rfl
         have hc9_ : w'.cell? ⟨gb375, 9, none⟩ = some (.int .i64 1) := (blk_cell BK375.out 9).trans rfl
         have hc10_ : w'.cell? ⟨gb375, 10, none⟩ = some (.int .i64 0) := (blk_cell BK375.out 10).trans rfl
         have hc11_ : w'.cell? ⟨gb375, 11, none⟩ = some (.bool false) := (blk_cell BK375.out 11).trans rfl
         have hc12_ : w'.cell? ⟨gb375, 12, none⟩ = some (.int .i64 0) := (blk_cell BK375.out 12).trans rfl
         have hc13_ : w'.cell? ⟨gb375, 13, none⟩ = some (.slice none 0 0) := (blk_cell BK375.out 13).trans rfl
         refine value_ (w1 := w') (v := .agg #[.int .i64 2, .int .i64 0, .int .i64 1, .int .i64 1, .int .i64 0, .int .i64 0, .bool false, .int .i64 0, .int .i64 1, .int .i64 1, .int .i64 0, .bool false, .int .i64 0, .slice none 0 0]) (wanted_on rfl rfl rfl (e36.trans (by first | rfl | (simp [*]; done)))) rfl ?_ ?_
         ·go_simp
          (try simp only [i64_w])
          try rfl
         refine hK.out _ _ ⟨v377, v380, v383, v387, v390, v393, v399, v415, m36_, (by rw [ha.out]; exact putSel_upk 34 hb_ rfl rfl rfl), Q_BK375, Q_HB, fun _ h1_ => absurd ((hon 5 (by kernel_rfl)).symm.trans h1_) (by decide), fun _ h1_ => absurd ((hon 5 (by kernel_rfl)).symm.trans h1_) (by decide), Q_HO384, fun _ h1_ => absurd ((hon 14 (by kernel_rfl)).symm.trans h1_) (by decide), fun _ h1_ => absurd ((hon 14 (by kernel_rfl)).symm.trans h1_) (by decide), Q_HO394, Q_HO400, Q_HO416, Q_X36_⟩
        refine steps_cons ?_ ?_
        ·rintro b a w' ⟨v377, v380, v383, v387, v390, v393, v399, v415, m36_, ha, Q_BK375, Q_HB, Q_HO378, Q_HO381, Q_HO384, Q_HO388, Q_HO391, Q_HO394, Q_HO400, Q_HO416, Q_X36_⟩ hb_ hon hoff
         refine ⟨_, rfl, fun K hK => ?_⟩
         have e1 : a.tmps[1]? = some (.pointer (some ⟨gb375, 0, none⟩)) := by rw [ha]; exact (putSel_off rfl).trans rfl
         have e36 : a.tmps[36]? = some (.bool ((t398.length : Int) == 2)) := by rw [ha]; exact putSel_on (e := (33, 36, .bool ((t398.length : Int) == 2))) 33 rfl rfl (hon 33 (by kernel_rfl)) rfl
         replace ha := Aside0.mk ha
         have BK375 := Aside0.mk Q_BK375
         have HB := Aside0.mk Q_HB
         have HO384 := Aside0.mk (Q_HO384 (hon 5 (by kernel_rfl)))
         have HO394 := Aside0.mk (Q_HO394 (hon 14 (by kernel_rfl)))
         have HO400 := Aside0.mk (Q_HO400 (hon 29 (by kernel_rfl)))
         have hc0_ : w'.cell? ⟨gb375, 0, none⟩ = some (.int .i64 2) := (blk_cell BK375.out 0).trans rfl
         have hc1_ : w'.cell? ⟨gb375, 1, none⟩ = some (.int .i64 0) := (blk_cell BK375.out 1).trans rfl
         have hc2_ : w'.cell? ⟨gb375, 2, none⟩ = some (.int .i64 1) := (blk_cell BK375.out 2).trans rfl
         have hc3_ : w'.cell? ⟨gb375, 3, none⟩ = some (.int .i64 1) := (blk_cell BK375.out 3).trans rfl
         have hc4_ : w'.cell? ⟨gb375, 4, none⟩ = some (.int .i64 0) := (blk_cell BK375.out 4).trans rfl
         have hc5_ : w'.cell? ⟨gb375, 5, none⟩ = some (.int .i64 0) := (blk_cell BK375.out 5).trans rfl
         have hc6_ : w'.cell? ⟨gb375, 6, none⟩ = some (.bool false) := (blk_cell BK375.out 6).trans rfl
         have hc7_ : w'.cell? ⟨gb375, 7, none⟩ = some (.int .i64 0) := (blk_cell BK375.out 7).trans rfl
         have hc8_ : w'.cell? ⟨gb375, 8, none⟩ = some (.int .i64 1) := (blk_cell BK375.out 8).trans rfl
         have hc9_ : w'.cell? ⟨gb375, 9, none⟩ = some (.int .i64 1) := (blk_cell BK375.out 9).trans rfl
         have hc10_ : w'.cell? ⟨gb375, 10, none⟩ = some (.int .i64 0) := (blk_cell BK375.out 10).trans rfl
         have hc11_ : w'.cell? ⟨gb375, 11, none⟩ = some (.bool false) := (blk_cell BK375.out 11).trans rfl
         have hc12_ : w'.cell? ⟨gb375, 12, none⟩ = some (.int .i64 0) := (blk_cell BK375.out 12).trans rfl
         have hc13_ : w'.cell? ⟨gb375, 13, none⟩ = some (.slice none 0 0) := (blk_cell BK375.out 13).trans rfl
         refine value_ (w1 := w') (v := .agg #[.int .i64 2, .int .i64 0, .int .i64 1, .int .i64 1, .int .i64 0, .int .i64 0, .bool false, .int .i64 0, .int .i64 1, .int .i64 1, .int .i64 0, .bool false, .int .i64 0, .slice none 0 0]) (wanted_on rfl rfl rfl (e36.trans (by first | rfl | (simp [*]; done)))) rfl ?_ ?_
         ·go_simp
          (try simp only [i64_w])
          try rfl
         refine hK.out _ _ ⟨v377, v380, v383, v387, v390, v393, v399, v415, m36_, (by rw [ha.out]; exact putSel_upk 35 hb_ rfl rfl rfl), Q_BK375, Q_HB, fun _ h1_ => absurd ((hon 5 (by kernel_rfl)).symm.trans h1_) (by decide), fun _ h1_ => absurd ((hon 5 (by kernel_rfl)).symm.trans h1_) (by decide), Q_HO384, fun _ h1_ => absurd ((hon 14 (by kernel_rfl)).symm.trans h1_) (by decide), fun _ h1_ => absurd ((hon 14 (by kernel_rfl)).symm.trans h1_) (by decide), Q_HO394, Q_HO400, fun h0_ => absurd ((hoff 36 (by kernel_rfl)).symm.trans h0_) (by decide), fun h0_ => absurd ((hoff 36 (by kernel_rfl)).symm.trans h0_) (by decide)⟩
        refine steps_cons ?_ ?_
        ·rintro b a w' ⟨v377, v380, v383, v387, v390, v393, v399, v415, m36_, ha, Q_BK375, Q_HB, Q_HO378, Q_HO381, Q_HO384, Q_HO388, Q_HO391, Q_HO394, Q_HO400, Q_HO416, Q_X36_⟩ hb_ hon hoff
         refine ⟨_, rfl, fun K hK => ?_⟩
         have e38 : a.tmps[38]? = some (.agg #[.int .i64 2, .int .i64 0, .int .i64 1, .int .i64 1, .int .i64 0, .int .i64 0, .bool false, .int .i64 0, .int .i64 1, .int .i64 1, .int .i64 0, .bool false, .int .i64 0, .slice none 0 0]) := by rw [ha]; exact putSel_on (e := (35, 38, .agg #[.int .i64 2, .int .i64 0, .int .i64 1, .int .i64 1, .int .i64 0, .int .i64 0, .bool false, .int .i64 0, .int .i64 1, .int .i64 1, .int .i64 0, .bool false, .int .i64 0, .slice none 0 0])) 35 rfl rfl (hon 35 (by kernel_rfl)) rfl
         have e36 : a.tmps[36]? = some (.bool ((t398.length : Int) == 2)) := by rw [ha]; exact putSel_on (e := (33, 36, .bool ((t398.length : Int) == 2))) 33 rfl rfl (hon 33 (by kernel_rfl)) rfl
         replace ha := Aside0.mk ha
         have BK375 := Aside0.mk Q_BK375
         have HB := Aside0.mk Q_HB
         have HO384 := Aside0.mk (Q_HO384 (hon 5 (by kernel_rfl)))
         have HO394 := Aside0.mk (Q_HO394 (hon 14 (by kernel_rfl)))
         have HO400 := Aside0.mk (Q_HO400 (hon 29 (by kernel_rfl)))
         obtain ⟨Ao46, co46, eo46⟩ := Kd.R_slice HO400.out
         (first | subst eo46 | (injection eo46 with f1_ f2_ f3_; have f4_ := f1_.symm; have f5_ := f3_.symm; clear f1_ f2_ f3_; subst f4_; subst f5_))
         refine goes_ Try.func41 (by kernel_rfl) rfl #[.agg #[.int .i64 2, .int .i64 0, .int .i64 1, .int .i64 1, .int .i64 0, .int .i64 0, .bool false, .int .i64 0, .int .i64 1, .int .i64 1, .int .i64 0, .bool false, .int .i64 0, .slice none 0 0]] (by (first | rfl | exact wanted_on rfl rfl rfl (e11.trans (by first | rfl | (simp [*]; done))) | exact wanted_on rfl rfl rfl (e21.trans (by first | rfl | (simp [*]; done))) | exact wanted_on rfl rfl rfl (e25.trans (by first | rfl | (simp [*]; done))) | exact wanted_on rfl rfl rfl (e30.trans (by first | rfl | (simp [*]; done))) | exact wanted_on rfl rfl rfl (e36.trans (by first | rfl | (simp [*]; done))) | exact wanted_on rfl rfl rfl (e42.trans (by first | rfl | (simp [*]; done))))) rfl rfl (by first | (simp only [List.map_toArray, List.map_cons, List.map_nil, Act.eval, Array.getD_eq_getD_getElem?, Option.getD_some, e38, e36]; done) | (simp only [List.map_toArray, List.map_cons, List.map_nil, Act.eval, Array.getD_eq_getD_getElem?, Option.getD_some, e38, e36]; rfl)) ?_
         refine (pred_Copy.calls k 2 0 1 1 0 0 false 0 1 1 0 false 0 _ _ ([] : List (S46)) t401 t402 t403 t404 t405 t406 t407 t408 t409 t410 t411 t412 t413 t414 _ ?side1 ?side2 A12.out).mono ?_
         (case side1 => exact Kd.C_nil _ _)
         (case side2 => exact Nat.le_refl _)
         rintro e w47 ⟨v415, rfl, ho0, hb⟩
         refine ⟨_, rfl, ?_⟩
         have n0_ := Aside0.mk (Kd.N_elder' (by (with_reducible repeat (first | apply Kd.N_alloc | apply Kd.N_drewN | apply Kd.N_drew)); exact HO384.out) (Kd.R_base ho0) hb)
         have n1_ := Aside0.mk (Kd.N_elder' (by (with_reducible repeat (first | apply Kd.N_alloc | apply Kd.N_drewN | apply Kd.N_drew)); exact HO394.out) (Kd.R_base ho0) hb)
         have n2_ := Aside0.mk (Kd.R_below (by (with_reducible repeat (first | apply Kd.R_alloc | apply Kd.R_drewN | apply Kd.R_drew)); exact HO400.out) hb)
         have n3_ := Aside0.mk (Kd.N_lower (Kd.N_mono (ok' := fun k_ => some k_ ≠ (v383 : Value).ownBlock ∧ some k_ ≠ (v393 : Value).ownBlock ∧ some k_ ≠ (.slice Ao46 t398.length co46 : Value).ownBlock ∧ k_ ≠ gb375) (Kd.R_N (Kd.R_bound ho0)) (fun k_ hk_ => ⟨(Kd.fresh' (Kd.N_lt (by (with_reducible repeat (first | apply Kd.N_alloc | apply Kd.N_drewN | apply Kd.N_drew)); exact HO384.out)) k_ hk_.2.1), (Kd.fresh' (Kd.N_lt (by (with_reducible repeat (first | apply Kd.N_alloc | apply Kd.N_drewN | apply Kd.N_drew)); exact HO394.out)) k_ hk_.2.1), (Kd.fresh' (Kd.R_lt (by (with_reducible repeat (first | apply Kd.R_alloc | apply Kd.R_drewN | apply Kd.R_drew)); exact HO400.out)) k_ hk_.2.1), (Kd.freshB (g := gb375) (o := .cells #[.int .i64 2, .int .i64 0, .int .i64 1, .int .i64 1, .int .i64 0, .int .i64 0, .bool false, .int .i64 0, .int .i64 1, .int .i64 1, .int .i64 0, .bool false, .int .i64 0, .slice none 0 0] 46 (0, 0)) (by (with_reducible repeat (first | refine blk_drewN ?_ _ | refine blk_drew ?_ | refine blk_alloc ?_ _)); exact BK375.out) k_ hk_.2.1)⟩)) (below_size (by repeat (first | (with_reducible first | exact HB.out | apply below_alloc | apply pw_below_drewN | apply below_drew1 | refine below_set ?_ GE375.out) | exact HB.out))))
         have n4_ := Aside0.mk (blk_below (by (with_reducible repeat (first | refine blk_drewN ?_ _ | refine blk_drew ?_ | refine blk_alloc ?_ _)); exact BK375.out) hb)
         have n5_ := Aside0.mk (below_step (by repeat (first | (with_reducible first | exact HB.out | apply below_alloc | apply pw_below_drewN | apply below_drew1 | refine below_set ?_ GE375.out) | exact HB.out)) hb)
         clear HO384
         clear HO394
         clear HO400
         clear BK375
         clear HB
         have HO384 := n0_
         have HO394 := n1_
         have HO400 := n2_
         have HO416 := n3_
         have BK375 := n4_
         have HB := n5_
         clear n0_ n1_ n2_ n3_ n4_ n5_
         (try clear hb)
         (try clear hb2)
         (try clear hk)
         (try clear hi)
         (try clear ho0)
         refine hK.out _ _ ⟨v377, v380, v383, v387, v390, v393, .slice Ao46 t398.length co46, v415, (.agg #[.int .i64 t401, .int .i64 t402, .int .i64 t403, .int .i64 t404, .int .i64 t405, .int .i64 t406, .bool t407, .int .i64 t408, .int .i64 t409, .int .i64 t410, .int .i64 t411, .bool t412, .int .i64 t413, v415]), (by rw [ha.out]; exact putSel_upk 36 hb_ rfl rfl rfl), (by (with_reducible repeat (first | refine blk_drewN ?_ _ | refine blk_drew ?_ | refine blk_alloc ?_ _)); exact BK375.out), (by repeat (first | (with_reducible first | exact HB.out | apply below_alloc | apply pw_below_drewN | apply below_drew1 | refine below_set ?_ GE375.out) | exact HB.out)), fun _ h1_ => absurd ((hon 5 (by kernel_rfl)).symm.trans h1_) (by decide), fun _ h1_ => absurd ((hon 5 (by kernel_rfl)).symm.trans h1_) (by decide), fun _ => (by (with_reducible repeat (first | apply Kd.N_alloc | apply Kd.N_drewN | apply Kd.N_drew)); first | exact HO384.out | exact Kd.N_mono HO384.out (fun _ hk => by first | exact hk.1 | exact hk.2 | exact hk.2.2 | exact hk.1.2 | exact hk.1.2.2 | exact hk.2.1 | exact hk.2.2.2)), fun _ h1_ => absurd ((hon 14 (by kernel_rfl)).symm.trans h1_) (by decide), fun _ h1_ => absurd ((hon 14 (by kernel_rfl)).symm.trans h1_) (by decide), fun _ => (by (with_reducible repeat (first | apply Kd.N_alloc | apply Kd.N_drewN | apply Kd.N_drew)); first | exact HO394.out | exact Kd.N_mono HO394.out (fun _ hk => by first | exact hk.1 | exact hk.2 | exact hk.2.2 | exact hk.1.2 | exact hk.1.2.2 | exact hk.2.1 | exact hk.2.2.2)), fun _ => (by (with_reducible repeat (first | apply Kd.R_alloc | apply Kd.R_drewN | apply Kd.R_drew)); exact HO400.out), fun _ => (by (with_reducible repeat (first | apply Kd.N_alloc | apply Kd.N_drewN | apply Kd.N_drew)); first | exact HO416.out | exact Kd.N_mono HO416.out (fun _ hk => by first | exact hk.1 | exact hk.2 | exact hk.2.2 | exact hk.1.2 | exact hk.1.2.2 | exact hk.2.1 | exact hk.2.2.2)), fun _ => rfl⟩
        refine steps_cons ?_ ?_
        ·rintro b a w' ⟨v377, v380, v383, v387, v390, v393, v399, v415, m36_, ha, Q_BK375, Q_HB, Q_HO378, Q_HO381, Q_HO384, Q_HO388, Q_HO391, Q_HO394, Q_HO400, Q_HO416, Q_X36_⟩ hb_ hon hoff
         refine ⟨_, rfl, fun K hK => ?_⟩
         have e37 : a.tmps[37]? = some (.agg #[.int .i64 2, .int .i64 0, .int .i64 1, .int .i64 1, .int .i64 0, .int .i64 0, .bool false, .int .i64 0, .int .i64 1, .int .i64 1, .int .i64 0, .bool false, .int .i64 0, .slice none 0 0]) := by rw [ha]; exact putSel_on (e := (34, 37, .agg #[.int .i64 2, .int .i64 0, .int .i64 1, .int .i64 1, .int .i64 0, .int .i64 0, .bool false, .int .i64 0, .int .i64 1, .int .i64 1, .int .i64 0, .bool false, .int .i64 0, .slice none 0 0])) 34 rfl rfl (hon 34 (by kernel_rfl)) rfl
         have e39 : a.tmps[39]? = some (m36_) := by rw [ha]; exact putSel_on (e := (36, 39, m36_)) 36 rfl rfl (hon 36 (by kernel_rfl)) rfl
         rw [Q_X36_ (hon 36 (by kernel_rfl))] at e39
         have e36 : a.tmps[36]? = some (.bool ((t398.length : Int) == 2)) := by rw [ha]; exact putSel_on (e := (33, 36, .bool ((t398.length : Int) == 2))) 33 rfl rfl (hon 33 (by kernel_rfl)) rfl
         replace ha := Aside0.mk ha
         have BK375 := Aside0.mk Q_BK375
         have HB := Aside0.mk Q_HB
         have HO384 := Aside0.mk (Q_HO384 (hon 5 (by kernel_rfl)))
         have HO394 := Aside0.mk (Q_HO394 (hon 14 (by kernel_rfl)))
         have HO400 := Aside0.mk (Q_HO400 (hon 29 (by kernel_rfl)))
         have HO416 := Aside0.mk (Q_HO416 (hon 36 (by kernel_rfl)))
         obtain ⟨Ao47, co47, eo47⟩ := Kd.R_slice HO400.out
         (first | subst eo47 | (injection eo47 with f1_ f2_ f3_; have f4_ := f1_.symm; have f5_ := f3_.symm; clear f1_ f2_ f3_; subst f4_; subst f5_))
         obtain ⟨Ao48, co48, eo48⟩ := Kd.N_slice HO416.out
         (first | subst eo48 | (injection eo48 with f1_ f2_ f3_; have f4_ := f1_.symm; have f5_ := f3_.symm; clear f1_ f2_ f3_; subst f4_; subst f5_))
         refine goes_ Try.func39 (by kernel_rfl) rfl #[.agg #[.int .i64 2, .int .i64 0, .int .i64 1, .int .i64 1, .int .i64 0, .int .i64 0, .bool false, .int .i64 0, .int .i64 1, .int .i64 1, .int .i64 0, .bool false, .int .i64 0, .slice none 0 0], .agg #[.int .i64 t401, .int .i64 t402, .int .i64 t403, .int .i64 t404, .int .i64 t405, .int .i64 t406, .bool t407, .int .i64 t408, .int .i64 t409, .int .i64 t410, .int .i64 t411, .bool t412, .int .i64 t413, .slice Ao48 t414.length co48]] (by (first | rfl | exact wanted_on rfl rfl rfl (e11.trans (by first | rfl | (simp [*]; done))) | exact wanted_on rfl rfl rfl (e21.trans (by first | rfl | (simp [*]; done))) | exact wanted_on rfl rfl rfl (e25.trans (by first | rfl | (simp [*]; done))) | exact wanted_on rfl rfl rfl (e30.trans (by first | rfl | (simp [*]; done))) | exact wanted_on rfl rfl rfl (e36.trans (by first | rfl | (simp [*]; done))) | exact wanted_on rfl rfl rfl (e42.trans (by first | rfl | (simp [*]; done))))) rfl rfl (by first | (simp only [List.map_toArray, List.map_cons, List.map_nil, Act.eval, Array.getD_eq_getD_getElem?, Option.getD_some, e37, e39, e36]; done) | (simp only [List.map_toArray, List.map_cons, List.map_nil, Act.eval, Array.getD_eq_getD_getElem?, Option.getD_some, e37, e39, e36]; rfl)) ?_
         refine (pred_Same.calls k 2 0 1 1 0 0 false 0 1 1 0 false 0 _ _ ([] : List (S46)) t401 t402 t403 t404 t405 t406 t407 t408 t409 t410 t411 t412 t413 _ _ t414 true _ ?side1 ?side2 ?side3 ?side4 A13.out).mono ?_
         (case side1 => exact Kd.C_nil _ _)
         (case side2 => exact Nat.le_refl _)
         (case side3 => repeat (first | exact (Kd.N_reads' HO416.out).2.2 | (with_reducible refine Kd.C_alloc ?_ _) | (with_reducible refine Kd.C_drewN ?_ _) | (with_reducible refine Kd.C_drew ?_)))
         (case side4 => exact (Kd.N_reads' HO416.out).2.1)
         rintro e w49 ⟨rfl, hb⟩
         refine ⟨_, rfl, ?_⟩
         have n0_ := Aside0.mk (Kd.N_below (by (with_reducible repeat (first | apply Kd.N_alloc | apply Kd.N_drewN | apply Kd.N_drew)); exact HO384.out) hb)
         have n1_ := Aside0.mk (Kd.N_below (by (with_reducible repeat (first | apply Kd.N_alloc | apply Kd.N_drewN | apply Kd.N_drew)); exact HO394.out) hb)
         have n2_ := Aside0.mk (Kd.R_below (by (with_reducible repeat (first | apply Kd.R_alloc | apply Kd.R_drewN | apply Kd.R_drew)); exact HO400.out) hb)
         have n3_ := Aside0.mk (Kd.N_below (by (with_reducible repeat (first | apply Kd.N_alloc | apply Kd.N_drewN | apply Kd.N_drew)); exact HO416.out) hb)
         have n4_ := Aside0.mk (blk_below (by (with_reducible repeat (first | refine blk_drewN ?_ _ | refine blk_drew ?_ | refine blk_alloc ?_ _)); exact BK375.out) hb)
         have n5_ := Aside0.mk (below_step (by repeat (first | (with_reducible first | exact HB.out | apply below_alloc | apply pw_below_drewN | apply below_drew1 | refine below_set ?_ GE375.out) | exact HB.out)) hb)
         clear HO384
         clear HO394
         clear HO400
         clear HO416
         clear BK375
         clear HB
         have HO384 := n0_
         have HO394 := n1_
         have HO400 := n2_
         have HO416 := n3_
         have BK375 := n4_
         have HB := n5_
         clear n0_ n1_ n2_ n3_ n4_ n5_
         (try clear hb)
         (try clear hb2)
         (try clear hk)
         (try clear hi)
         refine hK.out _ _ ⟨v377, v380, v383, v387, v390, v393, .slice Ao47 t398.length co47, .slice Ao48 t414.length co48, m36_, (by rw [ha.out]; exact putSel_upk 37 hb_ rfl rfl rfl), (by (with_reducible repeat (first | refine blk_drewN ?_ _ | refine blk_drew ?_ | refine blk_alloc ?_ _)); exact BK375.out), (by repeat (first | (with_reducible first | exact HB.out | apply below_alloc | apply pw_below_drewN | apply below_drew1 | refine below_set ?_ GE375.out) | exact HB.out)), fun _ h1_ => absurd ((hon 5 (by kernel_rfl)).symm.trans h1_) (by decide), fun _ h1_ => absurd ((hon 5 (by kernel_rfl)).symm.trans h1_) (by decide), fun _ => (by (with_reducible repeat (first | apply Kd.N_alloc | apply Kd.N_drewN | apply Kd.N_drew)); first | exact HO384.out | exact Kd.N_mono HO384.out (fun _ hk => by first | exact hk.1 | exact hk.2 | exact hk.2.2 | exact hk.1.2 | exact hk.1.2.2 | exact hk.2.1 | exact hk.2.2.2)), fun _ h1_ => absurd ((hon 14 (by kernel_rfl)).symm.trans h1_) (by decide), fun _ h1_ => absurd ((hon 14 (by kernel_rfl)).symm.trans h1_) (by decide), fun _ => (by (with_reducible repeat (first | apply Kd.N_alloc | apply Kd.N_drewN | apply Kd.N_drew)); first | exact HO394.out | exact Kd.N_mono HO394.out (fun _ hk => by first | exact hk.1 | exact hk.2 | exact hk.2.2 | exact hk.1.2 | exact hk.1.2.2 | exact hk.2.1 | exact hk.2.2.2)), fun _ => (by (with_reducible repeat (first | apply Kd.R_alloc | apply Kd.R_drewN | apply Kd.R_drew)); exact HO400.out), fun _ => (by (with_reducible repeat (first | apply Kd.N_alloc | apply Kd.N_drewN | apply Kd.N_drew)); first | exact HO416.out | exact Kd.N_mono HO416.out (fun _ hk => by first | exact hk.1 | exact hk.2 | exact hk.2.2 | exact hk.1.2 | exact hk.1.2.2 | exact hk.2.1 | exact hk.2.2.2)), Q_X36_⟩
        refine steps_cons ?_ ?_
        ·rintro b a w' ⟨v377, v380, v383, v387, v390, v393, v399, v415, m36_, ha, Q_BK375, Q_HB, Q_HO378, Q_HO381, Q_HO384, Q_HO388, Q_HO391, Q_HO394, Q_HO400, Q_HO416, Q_X36_⟩ hb_ hon hoff
         refine ⟨_, rfl, fun K hK => ?_⟩
         have e36 : a.tmps[36]? = some (.bool ((t398.length : Int) == 2)) := by rw [ha]; exact putSel_on (e := (33, 36, .bool ((t398.length : Int) == 2))) 33 rfl rfl (hon 33 (by kernel_rfl)) rfl
         have e40 : a.tmps[40]? = some (.bool true) := by rw [ha]; exact putSel_on (e := (37, 40, .bool true)) 37 rfl rfl (hon 37 (by kernel_rfl)) rfl
         replace ha := Aside0.mk ha
         have BK375 := Aside0.mk Q_BK375
         have HB := Aside0.mk Q_HB
         have HO384 := Aside0.mk (Q_HO384 (hon 5 (by kernel_rfl)))
         have HO394 := Aside0.mk (Q_HO394 (hon 14 (by kernel_rfl)))
         have HO400 := Aside0.mk (Q_HO400 (hon 29 (by kernel_rfl)))
         have HO416 := Aside0.mk (Q_HO416 (hon 36 (by kernel_rfl)))
         refine value_ (w1 := w') (v := .bool true) (by rfl) rfl ?_ ?_
         ·go_simp
          (try simp only [i64_w])
          try rfl
         refine hK.out _ _ ⟨v377, v380, v383, v387, v390, v393, v399, v415, m36_, (by rw [ha.out]; exact putSel_upk 38 hb_ rfl rfl rfl), Q_BK375, Q_HB, fun _ h1_ => absurd ((hon 5 (by kernel_rfl)).symm.trans h1_) (by decide), fun _ h1_ => absurd ((hon 5 (by kernel_rfl)).symm.trans h1_) (by decide), Q_HO384, fun _ h1_ => absurd ((hon 14 (by kernel_rfl)).symm.trans h1_) (by decide), fun _ h1_ => absurd ((hon 14 (by kernel_rfl)).symm.trans h1_) (by decide), Q_HO394, Q_HO400, Q_HO416, Q_X36_⟩
        refine steps_cons ?_ ?_
        ·rintro b a w' ⟨v377, v380, v383, v387, v390, v393, v399, v415, m36_, ha, Q_BK375, Q_HB, Q_HO378, Q_HO381, Q_HO384, Q_HO388, Q_HO391, Q_HO394, Q_HO400, Q_HO416, Q_X36_⟩ hb_ hon hoff
         refine ⟨_, rfl, fun K hK => ?_⟩
         have e41 : a.tmps[41]? = some (.bool true) := by rw [ha]; exact putSel_on (e := (38, 41, .bool true)) 38 rfl rfl (hon 38 (by kernel_rfl)) rfl
         replace ha := Aside0.mk ha
         have BK375 := Aside0.mk Q_BK375
         have HB := Aside0.mk Q_HB
         have HO384 := Aside0.mk (Q_HO384 (hon 5 (by kernel_rfl)))
         have HO394 := Aside0.mk (Q_HO394 (hon 14 (by kernel_rfl)))
         have HO400 := Aside0.mk (Q_HO400 (hon 29 (by kernel_rfl)))
         have HO416 := Aside0.mk (Q_HO416 (hon 36 (by kernel_rfl)))
         refine value_ (w1 := w') (v := .bool true) (by rfl) rfl ?_ ?_
         ·go_simp
          (try simp only [i64_w])
          try rfl
         refine hK.out _ _ ⟨v377, v380, v383, v387, v390, v393, v399, v415, m36_, (by rw [ha.out]; exact putSel_upk 39 hb_ rfl rfl rfl), Q_BK375, Q_HB, fun _ h1_ => absurd ((hon 5 (by kernel_rfl)).symm.trans h1_) (by decide), fun _ h1_ => absurd ((hon 5 (by kernel_rfl)).symm.trans h1_) (by decide), Q_HO384, fun _ h1_ => absurd ((hon 14 (by kernel_rfl)).symm.trans h1_) (by decide), fun _ h1_ => absurd ((hon 14 (by kernel_rfl)).symm.trans h1_) (by decide), Q_HO394, Q_HO400, Q_HO416, Q_X36_⟩
        refine steps_cons ?_ ?_
        ·rintro b a w' ⟨v377, v380, v383, v387, v390, v393, v399, v415, m36_, ha, Q_BK375, Q_HB, Q_HO378, Q_HO381, Q_HO384, Q_HO388, Q_HO391, Q_HO394, Q_HO400, Q_HO416, Q_X36_⟩ hb_ hon hoff
         refine ⟨_, rfl, fun K hK => ?_⟩
         have e42 : a.tmps[42]? = some (.bool true) := by rw [ha]; exact putSel_on (e := (39, 42, .bool true)) 39 rfl rfl (hon 39 (by kernel_rfl)) rfl
         replace ha := Aside0.mk ha
         have BK375 := Aside0.mk Q_BK375
         have HB := Aside0.mk Q_HB
         have HO384 := Aside0.mk (Q_HO384 (hon 5 (by kernel_rfl)))
         have HO394 := Aside0.mk (Q_HO394 (hon 14 (by kernel_rfl)))
         have HO400 := Aside0.mk (Q_HO400 (hon 29 (by kernel_rfl)))
         have HO416 := Aside0.mk (Q_HO416 (hon 36 (by kernel_rfl)))
         obtain ⟨Ao49, co49, eo49⟩ := Kd.R_slice HO400.out
         (first | subst eo49 | (injection eo49 with f1_ f2_ f3_; have f4_ := f1_.symm; have f5_ := f3_.symm; clear f1_ f2_ f3_; subst f4_; subst f5_))
         refine goes_ Try.func32 (by kernel_rfl) rfl #[.slice none 0 0, .slice none 0 0] (by (first | rfl | exact wanted_on rfl rfl rfl (e11.trans (by first | rfl | (simp [*]; done))) | exact wanted_on rfl rfl rfl (e21.trans (by first | rfl | (simp [*]; done))) | exact wanted_on rfl rfl rfl (e25.trans (by first | rfl | (simp [*]; done))) | exact wanted_on rfl rfl rfl (e30.trans (by first | rfl | (simp [*]; done))) | exact wanted_on rfl rfl rfl (e36.trans (by first | rfl | (simp [*]; done))) | exact wanted_on rfl rfl rfl (e42.trans (by first | rfl | (simp [*]; done))))) rfl rfl (by first | (simp only [List.map_toArray, List.map_cons, List.map_nil, Act.eval, Array.getD_eq_getD_getElem?, Option.getD_some, e42]; done) | (simp only [List.map_toArray, List.map_cons, List.map_nil, Act.eval, Array.getD_eq_getD_getElem?, Option.getD_some, e42]; rfl)) ?_
         refine (pred_All.calls k _ _ ([] : List (S46)) _ _ ([] : List (List (S42))) t418 _ ?side1 ?side2 ?side3 ?side4 A15.out).mono ?_
         (case side1 => exact Kd.C_nil _ _)
         (case side2 => exact Nat.le_refl _)
         (case side3 => exact Kd.C_nil _ _)
         (case side4 => exact Nat.le_refl _)
         rintro e w50 ⟨rfl, hb⟩
         refine ⟨_, rfl, ?_⟩
         have n0_ := Aside0.mk (Kd.N_below (by (with_reducible repeat (first | apply Kd.N_alloc | apply Kd.N_drewN | apply Kd.N_drew)); exact HO384.out) hb)
         have n1_ := Aside0.mk (Kd.N_below (by (with_reducible repeat (first | apply Kd.N_alloc | apply Kd.N_drewN | apply Kd.N_drew)); exact HO394.out) hb)
         have n2_ := Aside0.mk (Kd.R_below (by (with_reducible repeat (first | apply Kd.R_alloc | apply Kd.R_drewN | apply Kd.R_drew)); exact HO400.out) hb)
         have n3_ := Aside0.mk (Kd.N_below (by (with_reducible repeat (first | apply Kd.N_alloc | apply Kd.N_drewN | apply Kd.N_drew)); exact HO416.out) hb)
         have n4_ := Aside0.mk (blk_below (by (with_reducible repeat (first | refine blk_drewN ?_ _ | refine blk_drew ?_ | refine blk_alloc ?_ _)); exact BK375.out) hb)
         have n5_ := Aside0.mk (below_step (by repeat (first | (with_reducible first | exact HB.out | apply below_alloc | apply pw_below_drewN | apply below_drew1 | refine below_set ?_ GE375.out) | exact HB.out)) hb)
         clear HO384
         clear HO394
         clear HO400
         clear HO416
         clear BK375
         clear HB
         have HO384 := n0_
         have HO394 := n1_
         have HO400 := n2_
         have HO416 := n3_
         have BK375 := n4_
         have HB := n5_
         clear n0_ n1_ n2_ n3_ n4_ n5_
         (try clear hb)
         (try clear hb2)
         (try clear hk)
         (try clear hi)
         refine hK.out _ _ ⟨v377, v380, v383, v387, v390, v393, .slice Ao49 t398.length co49, v415, m36_, (by rw [ha.out]; exact putSel_upk 40 hb_ rfl rfl rfl), (by (with_reducible repeat (first | refine blk_drewN ?_ _ | refine blk_drew ?_ | refine blk_alloc ?_ _)); exact BK375.out), (by repeat (first | (with_reducible first | exact HB.out | apply below_alloc | apply pw_below_drewN | apply below_drew1 | refine below_set ?_ GE375.out) | exact HB.out)), fun _ h1_ => absurd ((hon 5 (by kernel_rfl)).symm.trans h1_) (by decide), fun _ h1_ => absurd ((hon 5 (by kernel_rfl)).symm.trans h1_) (by decide), fun _ => (by (with_reducible repeat (first | apply Kd.N_alloc | apply Kd.N_drewN | apply Kd.N_drew)); first | exact HO384.out | exact Kd.N_mono HO384.out (fun _ hk => by first | exact hk.1 | exact hk.2 | exact hk.2.2 | exact hk.1.2 | exact hk.1.2.2 | exact hk.2.1 | exact hk.2.2.2)), fun _ h1_ => absurd ((hon 14 (by kernel_rfl)).symm.trans h1_) (by decide), fun _ h1_ => absurd ((hon 14 (by kernel_rfl)).symm.trans h1_) (by decide), fun _ => (by (with_reducible repeat (first | apply Kd.N_alloc | apply Kd.N_drewN | apply Kd.N_drew)); first | exact HO394.out | exact Kd.N_mono HO394.out (fun _ hk => by first | exact hk.1 | exact hk.2 | exact hk.2.2 | exact hk.1.2 | exact hk.1.2.2 | exact hk.2.1 | exact hk.2.2.2)), fun _ => (by (with_reducible repeat (first | apply Kd.R_alloc | apply Kd.R_drewN | apply Kd.R_drew)); exact HO400.out), fun _ => (by (with_reducible repeat (first | apply Kd.N_alloc | apply Kd.N_drewN | apply Kd.N_drew)); first | exact HO416.out | exact Kd.N_mono HO416.out (fun _ hk => by first | exact hk.1 | exact hk.2 | exact hk.2.2 | exact hk.1.2 | exact hk.1.2.2 | exact hk.2.1 | exact hk.2.2.2)), Q_X36_⟩
        refine steps_cons ?_ ?_
        ·rintro b a w' ⟨v377, v380, v383, v387, v390, v393, v399, v415, m36_, ha, Q_BK375, Q_HB, Q_HO378, Q_HO381, Q_HO384, Q_HO388, Q_HO391, Q_HO394, Q_HO400, Q_HO416, Q_X36_⟩ hb_ hon hoff
         refine ⟨_, rfl, fun K hK => ?_⟩
         have e43 : a.tmps[43]? = some (.int .i64 t418) := by rw [ha]; exact putSel_on (e := (40, 43, .int .i64 t418)) 40 rfl rfl (hon 40 (by kernel_rfl)) rfl
         have e42 : a.tmps[42]? = some (.bool true) := by rw [ha]; exact putSel_on (e := (39, 42, .bool true)) 39 rfl rfl (hon 39 (by kernel_rfl)) rfl
         replace ha := Aside0.mk ha
         have BK375 := Aside0.mk Q_BK375
         have HB := Aside0.mk Q_HB
         have HO384 := Aside0.mk (Q_HO384 (hon 5 (by kernel_rfl)))
         have HO394 := Aside0.mk (Q_HO394 (hon 14 (by kernel_rfl)))
         have HO400 := Aside0.mk (Q_HO400 (hon 29 (by kernel_rfl)))
         have HO416 := Aside0.mk (Q_HO416 (hon 36 (by kernel_rfl)))
         refine value_ (w1 := w') (v := .bool (t418 == 2)) (wanted_on rfl rfl rfl (e42.trans (by first | rfl | (simp [*]; done)))) rfl ?_ ?_
         ·go_simp
          (try simp only [i64_w])
          try rfl
         refine hK.out _ _ ⟨v377, v380, v383, v387, v390, v393, v399, v415, m36_, (by rw [ha.out]; exact putSel_upk 41 hb_ rfl rfl rfl), Q_BK375, Q_HB, fun _ h1_ => absurd ((hon 5 (by kernel_rfl)).symm.trans h1_) (by decide), fun _ h1_ => absurd ((hon 5 (by kernel_rfl)).symm.trans h1_) (by decide), Q_HO384, fun _ h1_ => absurd ((hon 14 (by kernel_rfl)).symm.trans h1_) (by decide), fun _ h1_ => absurd ((hon 14 (by kernel_rfl)).symm.trans h1_) (by decide), Q_HO394, Q_HO400, Q_HO416, Q_X36_⟩
        refine steps_cons ?_ ?_
        ·rintro b a w' ⟨v377, v380, v383, v387, v390, v393, v399, v415, m36_, ha, Q_BK375, Q_HB, Q_HO378, Q_HO381, Q_HO384, Q_HO388, Q_HO391, Q_HO394, Q_HO400, Q_HO416, Q_X36_⟩ hb_ hon hoff
         refine ⟨_, rfl, fun K hK => ?_⟩
         have e42 : a.tmps[42]? = some (.bool true) := by rw [ha]; exact putSel_on (e := (39, 42, .bool true)) 39 rfl rfl (hon 39 (by kernel_rfl)) rfl
         have e44 : a.tmps[44]? = some (.bool (t418 == 2)) := by rw [ha]; exact putSel_on (e := (41, 44, .bool (t418 == 2))) 41 rfl rfl (hon 41 (by kernel_rfl)) rfl
         replace ha := Aside0.mk ha
         have BK375 := Aside0.mk Q_BK375
         have HB := Aside0.mk Q_HB
         have HO384 := Aside0.mk (Q_HO384 (hon 5 (by kernel_rfl)))
         have HO394 := Aside0.mk (Q_HO394 (hon 14 (by kernel_rfl)))
         have HO400 := Aside0.mk (Q_HO400 (hon 29 (by kernel_rfl)))
         have HO416 := Aside0.mk (Q_HO416 (hon 36 (by kernel_rfl)))
         refine value_ (w1 := w') (v := .bool (t418 == 2)) (by rfl) rfl ?_ ?_
         ·go_simp
          (try simp only [i64_w])
          try rfl
         refine hK.out _ _ ⟨v377, v380, v383, v387, v390, v393, v399, v415, m36_, (by rw [ha.out]; exact putSel_upk 42 hb_ rfl rfl rfl), Q_BK375, Q_HB, fun _ h1_ => absurd ((hon 5 (by kernel_rfl)).symm.trans h1_) (by decide), fun _ h1_ => absurd ((hon 5 (by kernel_rfl)).symm.trans h1_) (by decide), Q_HO384, fun _ h1_ => absurd ((hon 14 (by kernel_rfl)).symm.trans h1_) (by decide), fun _ h1_ => absurd ((hon 14 (by kernel_rfl)).symm.trans h1_) (by decide), Q_HO394, Q_HO400, Q_HO416, Q_X36_⟩
        refine steps_cons ?_ ?_
        ·rintro b a w' ⟨v377, v380, v383, v387, v390, v393, v399, v415, m36_, ha, Q_BK375, Q_HB, Q_HO378, Q_HO381, Q_HO384, Q_HO388, Q_HO391, Q_HO394, Q_HO400, Q_HO416, Q_X36_⟩ hb_ hon hoff
         refine ⟨_, rfl, fun K hK => ?_⟩
         have e45 : a.tmps[45]? = some (.bool (t418 == 2)) := by rw [ha]; exact putSel_on (e := (42, 45, .bool (t418 == 2))) 42 rfl rfl (hon 42 (by kernel_rfl)) rfl
         replace ha := Aside0.mk ha
         have BK375 := Aside0.mk Q_BK375
         have HB := Aside0.mk Q_HB
         have HO384 := Aside0.mk (Q_HO384 (hon 5 (by kernel_rfl)))
         have HO394 := Aside0.mk (Q_HO394 (hon 14 (by kernel_rfl)))
         have HO400 := Aside0.mk (Q_HO400 (hon 29 (by kernel_rfl)))
         have HO416 := Aside0.mk (Q_HO416 (hon 36 (by kernel_rfl)))
         refine value_ (w1 := w') (v := .bool (t418 == 2)) (by rfl) rfl ?_ ?_
         ·go_simp
          (try simp only [i64_w])
          try rfl
         refine hK.out _ _ ⟨v377, v380, v383, v387, v390, v393, v399, v415, m36_, (by rw [ha.out]; exact putSel_upk 43 hb_ rfl rfl rfl), Q_BK375, Q_HB, fun _ h1_ => absurd ((hon 5 (by kernel_rfl)).symm.trans h1_) (by decide), fun _ h1_ => absurd ((hon 5 (by kernel_rfl)).symm.trans h1_) (by decide), Q_HO384, fun _ h1_ => absurd ((hon 14 (by kernel_rfl)).symm.trans h1_) (by decide), fun _ h1_ => absurd ((hon 14 (by kernel_rfl)).symm.trans h1_) (by decide), Q_HO394, Q_HO400, Q_HO416, Q_X36_⟩
        exact steps_nil
       rintro b a w49 hall ⟨v377, v380, v383, v387, v390, v393, v399, v415, m36_, ha, Q_BK375, Q_HB, Q_HO378, Q_HO381, Q_HO384, Q_HO388, Q_HO391, Q_HO394, Q_HO400, Q_HO416, Q_X36_⟩
       clear BK375 HB
       have hb0_ := hall 0 (by kernel_rfl)
       have hb1_ := hall 1 (by kernel_rfl)
       have hb2_ := hall 2 (by kernel_rfl)
       have hb3_ := hall 3 (by kernel_rfl)
       have hb4_ := hall 4 (by kernel_rfl)
       have hb5_ := hall 5 (by kernel_rfl)
       have hb6_ := hall 6 (by kernel_rfl)
       have hb7_ := hall 7 (by kernel_rfl)
       have hb8_ := hall 8 (by kernel_rfl)
       have hb9_ := hall 9 (by kernel_rfl)
       have hb10_ := hall 10 (by kernel_rfl)
       have hb11_ := hall 11 (by kernel_rfl)
       have hb12_ := hall 12 (by kernel_rfl)
       have hb13_ := hall 13 (by kernel_rfl)
       have hb14_ := hall 14 (by kernel_rfl)
       have hb15_ := hall 15 (by kernel_rfl)
       have hb16_ := hall 16 (by kernel_rfl)
       have hb17_ := hall 17 (by kernel_rfl)
       have hb18_ := hall 18 (by kernel_rfl)
       have hb19_ := hall 19 (by kernel_rfl)
       have hb20_ := hall 20 (by kernel_rfl)
       have hb21_ := hall 21 (by kernel_rfl)
       have hb22_ := hall 22 (by kernel_rfl)
       have hb23_ := hall 23 (by kernel_rfl)
       have hb24_ := hall 24 (by kernel_rfl)
       have hb25_ := hall 25 (by kernel_rfl)
       have hb26_ := hall 26 (by kernel_rfl)
       have hb27_ := hall 27 (by kernel_rfl)
       have hb28_ := hall 28 (by kernel_rfl)
       have hb29_ := hall 29 (by kernel_rfl)
       have hb30_ := hall 30 (by kernel_rfl)
       have hb31_ := hall 31 (by kernel_rfl)
       have hb32_ := hall 32 (by kernel_rfl)
       have hb33_ := hall 33 (by kernel_rfl)
       have hb34_ := hall 34 (by kernel_rfl)
       have hb35_ := hall 35 (by kernel_rfl)
       have hb36_ := hall 36 (by kernel_rfl)
       have hb37_ := hall 37 (by kernel_rfl)
       have hb38_ := hall 38 (by kernel_rfl)
       have hb39_ := hall 39 (by kernel_rfl)
       have hb40_ := hall 40 (by kernel_rfl)
       have hb41_ := hall 41 (by kernel_rfl)
       have hb42_ := hall 42 (by kernel_rfl)
       have hb43_ := hall 43 (by kernel_rfl)
       subst ha
       obtain rfl := Q_X36_ hb36_
       simp only [putSel, hb0_, hb1_, hb2_, hb3_, hb4_, hb5_, hb6_, hb7_, hb8_, hb9_, hb10_, hb11_, hb12_, hb13_, hb14_, hb15_, hb16_, hb17_, hb18_, hb19_, hb20_, hb21_, hb22_, hb23_, hb24_, hb25_, hb26_, hb27_, hb28_, hb29_, hb30_, hb31_, hb32_, hb33_, hb34_, hb35_, hb36_, hb37_, hb38_, hb39_, hb40_, hb41_, hb42_, hb43_, if_true, Act.put, List.setIfInBounds_toArray, List.set_cons_zero, List.set_cons_succ]
       have BK375 := Aside0.mk Q_BK375
       clear Q_BK375
       have HB := Aside0.mk Q_HB
       clear Q_HB
       clear Q_HO378
       clear Q_HO381
       have HO384 := Aside0.mk (Q_HO384 hb5_)
       clear Q_HO384
       clear Q_HO388
       clear Q_HO391
       have HO394 := Aside0.mk (Q_HO394 hb14_)
       clear Q_HO394
       have HO400 := Aside0.mk (Q_HO400 hb29_)
       clear Q_HO400
       have HO416 := Aside0.mk (Q_HO416 hb36_)
       clear Q_HO416
       clear hall hb0_ hb1_ hb2_ hb3_ hb4_ hb5_ hb6_ hb7_ hb8_ hb9_ hb10_ hb11_ hb12_ hb13_ hb14_ hb15_ hb16_ hb17_ hb18_ hb19_ hb20_ hb21_ hb22_ hb23_ hb24_ hb25_ hb26_ hb27_ hb28_ hb29_ hb30_ hb31_ hb32_ hb33_ hb34_ hb35_ hb36_ hb37_ hb38_ hb39_ hb40_ hb41_ hb42_ hb43_
       obtain ⟨Ao50, co50, eo50⟩ := Kd.R_slice HO400.out
       (first | subst eo50 | (injection eo50 with f1_ f2_ f3_; have f4_ := f1_.symm; have f5_ := f3_.symm; clear f1_ f2_ f3_; subst f4_; subst f5_))
       try go_wp2
       go_ret
       exact ⟨by first | rfl | (simp [errW_none, errW_some] <;> rfl) | (simp [*, errW_none, errW_some] <;> rfl), by repeat (first | (with_reducible first | exact HB.out | apply below_alloc | apply pw_below_drewN | apply below_drew1 | refine below_set ?_ GE375.out) | exact HB.out)⟩
      ·replace c14 := Bool.eq_false_iff.mpr c14
       subst c14
       have H1 : (none) = some r := by rw [if_neg (show ¬ (false = true) by decide)] at H; exact H
       clear H
       have H := H1
       clear H1
       exact absurd H (by simp)
     ·rw [if_neg c11] at H
      exact absurd H (by simp)
    ·rw [if_neg c9] at H
     exact absurd H (by simp)
   ·replace c7 := Bool.eq_false_iff.mpr c7
    subst c7
    have H1 : (none) = some r := by rw [if_neg (show ¬ (false = true) by decide)] at H; exact H
    clear H
    have H := H1
    clear H1
    exact absurd H (by simp)
  ·rw [if_neg c5] at H
   exact absurd H (by simp)
 ·rw [if_neg c3] at H
  exact absurd H (by simp)

end Go.Proofs.Ytigkkfhpnfjmhaa.PPredU
