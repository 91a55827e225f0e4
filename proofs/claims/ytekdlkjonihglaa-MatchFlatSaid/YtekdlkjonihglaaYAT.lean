/- The program's types, as the abstract states see them. -/
import Derived.Test.YtekdlkjonihglaaYMB
import Derived.Test.YtekdlkjonihglaaProg
namespace Go.Proofs.Ytekdlkjonihglaa.AL
open Go
theorem ty0 : aty Try.prog 0 = .scal := by kernel_rfl
theorem ty2 : aty Try.prog 2 = .int .i64 := by kernel_rfl
theorem zc2 : zeroC Try.prog 2 = some [.int .i64 0] := by kernel_rfl
theorem ze2 : zeroE Try.prog 2 = some (.int .i64 0) := by kernel_rfl
theorem ty3 : aty Try.prog 3 = .int .i64 := by kernel_rfl
theorem zc3 : zeroC Try.prog 3 = some [.int .i64 0] := by kernel_rfl
theorem ze3 : zeroE Try.prog 3 = some (.int .i64 0) := by kernel_rfl
theorem ty4 : aty Try.prog 4 = .bool := by kernel_rfl
theorem zc4 : zeroC Try.prog 4 = some [.bool false] := by kernel_rfl
theorem ze4 : zeroE Try.prog 4 = some (.bool false) := by kernel_rfl
theorem ty22 : aty Try.prog 22 = .slice 50 14 128 := by kernel_rfl
theorem zc22 : zeroC Try.prog 22 = some [.sl 14 []] := by kernel_rfl
theorem ze22 : zeroE Try.prog 22 = some (.sl 14 []) := by kernel_rfl
theorem ty23 : aty Try.prog 23 = .slice 32 1 24 := by kernel_rfl
theorem zc23 : zeroC Try.prog 23 = some [.sl 1 []] := by kernel_rfl
theorem ze23 : zeroE Try.prog 23 = some (.sl 1 []) := by kernel_rfl
theorem ty28 : aty Try.prog 28 = .scal := by kernel_rfl
theorem zc28 : zeroC Try.prog 28 = some [.nilF] := by kernel_rfl
theorem ze28 : zeroE Try.prog 28 = some (.nilF) := by kernel_rfl
theorem ty29 : aty Try.prog 29 = .scal := by kernel_rfl
theorem zc29 : zeroC Try.prog 29 = some [.nilF] := by kernel_rfl
theorem ze29 : zeroE Try.prog 29 = some (.nilF) := by kernel_rfl
theorem ty32 : aty Try.prog 32 = .slice 41 1 24 := by kernel_rfl
theorem zc32 : zeroC Try.prog 32 = some [.sl 1 []] := by kernel_rfl
theorem ze32 : zeroE Try.prog 32 = some (.sl 1 []) := by kernel_rfl
theorem ty37 : aty Try.prog 37 = .int .u64 := by kernel_rfl
theorem zc37 : zeroC Try.prog 37 = some [.int .u64 0] := by kernel_rfl
theorem ze37 : zeroE Try.prog 37 = some (.int .u64 0) := by kernel_rfl
theorem ty38 : aty Try.prog 38 = .slice 3 1 8 := by kernel_rfl
theorem zc38 : zeroC Try.prog 38 = some [.sl 1 []] := by kernel_rfl
theorem ze38 : zeroE Try.prog 38 = some (.sl 1 []) := by kernel_rfl
theorem ty41 : aty Try.prog 41 = .slice 46 2 16 := by kernel_rfl
theorem zc41 : zeroC Try.prog 41 = some [.sl 2 []] := by kernel_rfl
theorem ze41 : zeroE Try.prog 41 = some (.sl 2 []) := by kernel_rfl
theorem ty46 : aty Try.prog 46 = .struct 2 [(0, 1, false), (1, 1, false)] := by kernel_rfl
theorem zc46 : zeroC Try.prog 46 = some [.bool false, .int .i64 0] := by kernel_rfl
theorem ze46 : zeroE Try.prog 46 = some (.agg [.bool false, .int .i64 0]) := by kernel_rfl
theorem ty48 : aty Try.prog 48 = .struct 5 [(0, 1, false), (1, 1, false), (2, 1, false), (3, 2, true)] := by kernel_rfl
theorem zc48 : zeroC Try.prog 48 = some [.int .i64 0, .int .i64 0, .int .i64 0, .bool false, .int .i64 0] := by kernel_rfl
theorem ze48 : zeroE Try.prog 48 = some (.agg [.int .i64 0, .int .i64 0, .int .i64 0, .bool false, .int .i64 0]) := by kernel_rfl
theorem ty50 : aty Try.prog 50 = .struct 14 [(0, 1, false), (1, 1, false), (2, 1, false), (3, 5, true), (8, 5, true), (13, 1, false)] := by kernel_rfl
theorem zc50 : zeroC Try.prog 50 = some [.int .i64 0, .int .i64 0, .int .i64 0, .int .i64 0, .int .i64 0, .int .i64 0, .bool false, .int .i64 0, .int .i64 0, .int .i64 0, .int .i64 0, .bool false, .int .i64 0, .sl 14 []] := by kernel_rfl
theorem ze50 : zeroE Try.prog 50 = some (.agg [.int .i64 0, .int .i64 0, .int .i64 0, .int .i64 0, .int .i64 0, .int .i64 0, .bool false, .int .i64 0, .int .i64 0, .int .i64 0, .int .i64 0, .bool false, .int .i64 0, .sl 14 []]) := by kernel_rfl
theorem ty52 : aty Try.prog 52 = .scal := by kernel_rfl
theorem zc52 : zeroC Try.prog 52 = some [.nilF] := by kernel_rfl
theorem ze52 : zeroE Try.prog 52 = some (.nilF) := by kernel_rfl
theorem ty53 : aty Try.prog 53 = .scal := by kernel_rfl
theorem zc53 : zeroC Try.prog 53 = some [.nilF] := by kernel_rfl
theorem ze53 : zeroE Try.prog 53 = some (.nilF) := by kernel_rfl
theorem ty55 : aty Try.prog 55 = .scal := by kernel_rfl
theorem zc55 : zeroC Try.prog 55 = some [.nilF] := by kernel_rfl
theorem ze55 : zeroE Try.prog 55 = some (.nilF) := by kernel_rfl
theorem ty60 : aty Try.prog 60 = .scal := by kernel_rfl
theorem zc60 : zeroC Try.prog 60 = some [.nilF] := by kernel_rfl
theorem ze60 : zeroE Try.prog 60 = some (.nilF) := by kernel_rfl
theorem ty70 : aty Try.prog 70 = .slice 37 1 8 := by kernel_rfl
theorem zc70 : zeroC Try.prog 70 = some [.sl 1 []] := by kernel_rfl
theorem ze70 : zeroE Try.prog 70 = some (.sl 1 []) := by kernel_rfl
theorem ty73 : aty Try.prog 73 = .scal := by kernel_rfl
theorem zc73 : zeroC Try.prog 73 = some [.nilF] := by kernel_rfl
theorem ze73 : zeroE Try.prog 73 = some (.nilF) := by kernel_rfl
theorem ty74 : aty Try.prog 74 = .scal := by kernel_rfl
theorem zc74 : zeroC Try.prog 74 = some [.nilF] := by kernel_rfl
theorem ze74 : zeroE Try.prog 74 = some (.nilF) := by kernel_rfl
theorem ty81 : aty Try.prog 81 = .scal := by kernel_rfl
theorem zc81 : zeroC Try.prog 81 = some [.nilF] := by kernel_rfl
theorem ze81 : zeroE Try.prog 81 = some (.nilF) := by kernel_rfl
theorem ty82 : aty Try.prog 82 = .scal := by kernel_rfl
theorem zc82 : zeroC Try.prog 82 = some [.nilF] := by kernel_rfl
theorem ze82 : zeroE Try.prog 82 = some (.nilF) := by kernel_rfl
theorem ty88 : aty Try.prog 88 = .scal := by kernel_rfl
theorem zc88 : zeroC Try.prog 88 = some [.nilF] := by kernel_rfl
theorem ze88 : zeroE Try.prog 88 = some (.nilF) := by kernel_rfl
theorem ty93 : aty Try.prog 93 = .arr 3 3 1 false := by kernel_rfl
theorem zc93 : zeroC Try.prog 93 = some [.int .i64 0, .int .i64 0, .int .i64 0] := by kernel_rfl
theorem ze93 : zeroE Try.prog 93 = some (.agg [.int .i64 0, .int .i64 0, .int .i64 0]) := by kernel_rfl
theorem ty94 : aty Try.prog 94 = .arr 21 7 3 true := by kernel_rfl
theorem zc94 : zeroC Try.prog 94 = some [.int .i64 0, .int .i64 0, .int .i64 0, .int .i64 0, .int .i64 0, .int .i64 0, .int .i64 0, .int .i64 0, .int .i64 0, .int .i64 0, .int .i64 0, .int .i64 0, .int .i64 0, .int .i64 0, .int .i64 0, .int .i64 0, .int .i64 0, .int .i64 0, .int .i64 0, .int .i64 0, .int .i64 0] := by kernel_rfl
theorem ze94 : zeroE Try.prog 94 = some (.agg [.int .i64 0, .int .i64 0, .int .i64 0, .int .i64 0, .int .i64 0, .int .i64 0, .int .i64 0, .int .i64 0, .int .i64 0, .int .i64 0, .int .i64 0, .int .i64 0, .int .i64 0, .int .i64 0, .int .i64 0, .int .i64 0, .int .i64 0, .int .i64 0, .int .i64 0, .int .i64 0, .int .i64 0]) := by kernel_rfl
theorem ty96 : aty Try.prog 96 = .scal := by kernel_rfl
theorem zc96 : zeroC Try.prog 96 = some [.nilF] := by kernel_rfl
theorem ze96 : zeroE Try.prog 96 = some (.nilF) := by kernel_rfl
theorem ty97 : aty Try.prog 97 = .scal := by kernel_rfl
theorem ty103 : aty Try.prog 103 = .int .u64 := by kernel_rfl
theorem zc103 : zeroC Try.prog 103 = some [.int .u64 0] := by kernel_rfl
theorem ze103 : zeroE Try.prog 103 = some (.int .u64 0) := by kernel_rfl
/-- All of them. -/
theorem tys : (aty Try.prog 0 = .scal) ∧ (aty Try.prog 2 = .int .i64) ∧ (zeroC Try.prog 2 = some [.int .i64 0]) ∧ (zeroE Try.prog 2 = some (.int .i64 0)) ∧ (aty Try.prog 3 = .int .i64) ∧ (zeroC Try.prog 3 = some [.int .i64 0]) ∧ (zeroE Try.prog 3 = some (.int .i64 0)) ∧ (aty Try.prog 4 = .bool) ∧ (zeroC Try.prog 4 = some [.bool false]) ∧ (zeroE Try.prog 4 = some (.bool false)) ∧ (aty Try.prog 22 = .slice 50 14 128) ∧ (zeroC Try.prog 22 = some [.sl 14 []]) ∧ (zeroE Try.prog 22 = some (.sl 14 [])) ∧ (aty Try.prog 23 = .slice 32 1 24) ∧ (zeroC Try.prog 23 = some [.sl 1 []]) ∧ (zeroE Try.prog 23 = some (.sl 1 [])) ∧ (aty Try.prog 28 = .scal) ∧ (zeroC Try.prog 28 = some [.nilF]) ∧ (zeroE Try.prog 28 = some (.nilF)) ∧ (aty Try.prog 29 = .scal) ∧ (zeroC Try.prog 29 = some [.nilF]) ∧ (zeroE Try.prog 29 = some (.nilF)) ∧ (aty Try.prog 32 = .slice 41 1 24) ∧ (zeroC Try.prog 32 = some [.sl 1 []]) ∧ (zeroE Try.prog 32 = some (.sl 1 [])) ∧ (aty Try.prog 37 = .int .u64) ∧ (zeroC Try.prog 37 = some [.int .u64 0]) ∧ (zeroE Try.prog 37 = some (.int .u64 0)) ∧ (aty Try.prog 38 = .slice 3 1 8) ∧ (zeroC Try.prog 38 = some [.sl 1 []]) ∧ (zeroE Try.prog 38 = some (.sl 1 [])) ∧ (aty Try.prog 41 = .slice 46 2 16) ∧ (zeroC Try.prog 41 = some [.sl 2 []]) ∧ (zeroE Try.prog 41 = some (.sl 2 [])) ∧ (aty Try.prog 46 = .struct 2 [(0, 1, false), (1, 1, false)]) ∧ (zeroC Try.prog 46 = some [.bool false, .int .i64 0]) ∧ (zeroE Try.prog 46 = some (.agg [.bool false, .int .i64 0])) ∧ (aty Try.prog 48 = .struct 5 [(0, 1, false), (1, 1, false), (2, 1, false), (3, 2, true)]) ∧ (zeroC Try.prog 48 = some [.int .i64 0, .int .i64 0, .int .i64 0, .bool false, .int .i64 0]) ∧ (zeroE Try.prog 48 = some (.agg [.int .i64 0, .int .i64 0, .int .i64 0, .bool false, .int .i64 0])) ∧ (aty Try.prog 50 = .struct 14 [(0, 1, false), (1, 1, false), (2, 1, false), (3, 5, true), (8, 5, true), (13, 1, false)]) ∧ (zeroC Try.prog 50 = some [.int .i64 0, .int .i64 0, .int .i64 0, .int .i64 0, .int .i64 0, .int .i64 0, .bool false, .int .i64 0, .int .i64 0, .int .i64 0, .int .i64 0, .bool false, .int .i64 0, .sl 14 []]) ∧ (zeroE Try.prog 50 = some (.agg [.int .i64 0, .int .i64 0, .int .i64 0, .int .i64 0, .int .i64 0, .int .i64 0, .bool false, .int .i64 0, .int .i64 0, .int .i64 0, .int .i64 0, .bool false, .int .i64 0, .sl 14 []])) ∧ (aty Try.prog 52 = .scal) ∧ (zeroC Try.prog 52 = some [.nilF]) ∧ (zeroE Try.prog 52 = some (.nilF)) ∧ (aty Try.prog 53 = .scal) ∧ (zeroC Try.prog 53 = some [.nilF]) ∧ (zeroE Try.prog 53 = some (.nilF)) ∧ (aty Try.prog 55 = .scal) ∧ (zeroC Try.prog 55 = some [.nilF]) ∧ (zeroE Try.prog 55 = some (.nilF)) ∧ (aty Try.prog 60 = .scal) ∧ (zeroC Try.prog 60 = some [.nilF]) ∧ (zeroE Try.prog 60 = some (.nilF)) ∧ (aty Try.prog 70 = .slice 37 1 8) ∧ (zeroC Try.prog 70 = some [.sl 1 []]) ∧ (zeroE Try.prog 70 = some (.sl 1 [])) ∧ (aty Try.prog 73 = .scal) ∧ (zeroC Try.prog 73 = some [.nilF]) ∧ (zeroE Try.prog 73 = some (.nilF)) ∧ (aty Try.prog 74 = .scal) ∧ (zeroC Try.prog 74 = some [.nilF]) ∧ (zeroE Try.prog 74 = some (.nilF)) ∧ (aty Try.prog 81 = .scal) ∧ (zeroC Try.prog 81 = some [.nilF]) ∧ (zeroE Try.prog 81 = some (.nilF)) ∧ (aty Try.prog 82 = .scal) ∧ (zeroC Try.prog 82 = some [.nilF]) ∧ (zeroE Try.prog 82 = some (.nilF)) ∧ (aty Try.prog 88 = .scal) ∧ (zeroC Try.prog 88 = some [.nilF]) ∧ (zeroE Try.prog 88 = some (.nilF)) ∧ (aty Try.prog 93 = .arr 3 3 1 false) ∧ (zeroC Try.prog 93 = some [.int .i64 0, .int .i64 0, .int .i64 0]) ∧ (zeroE Try.prog 93 = some (.agg [.int .i64 0, .int .i64 0, .int .i64 0])) ∧ (aty Try.prog 94 = .arr 21 7 3 true) ∧ (zeroC Try.prog 94 = some [.int .i64 0, .int .i64 0, .int .i64 0, .int .i64 0, .int .i64 0, .int .i64 0, .int .i64 0, .int .i64 0, .int .i64 0, .int .i64 0, .int .i64 0, .int .i64 0, .int .i64 0, .int .i64 0, .int .i64 0, .int .i64 0, .int .i64 0, .int .i64 0, .int .i64 0, .int .i64 0, .int .i64 0]) ∧ (zeroE Try.prog 94 = some (.agg [.int .i64 0, .int .i64 0, .int .i64 0, .int .i64 0, .int .i64 0, .int .i64 0, .int .i64 0, .int .i64 0, .int .i64 0, .int .i64 0, .int .i64 0, .int .i64 0, .int .i64 0, .int .i64 0, .int .i64 0, .int .i64 0, .int .i64 0, .int .i64 0, .int .i64 0, .int .i64 0, .int .i64 0])) ∧ (aty Try.prog 96 = .scal) ∧ (zeroC Try.prog 96 = some [.nilF]) ∧ (zeroE Try.prog 96 = some (.nilF)) ∧ (aty Try.prog 97 = .scal) ∧ (aty Try.prog 103 = .int .u64) ∧ (zeroC Try.prog 103 = some [.int .u64 0]) ∧ (zeroE Try.prog 103 = some (.int .u64 0)) := ⟨ty0, ty2, zc2, ze2, ty3, zc3, ze3, ty4, zc4, ze4, ty22, zc22, ze22, ty23, zc23, ze23, ty28, zc28, ze28, ty29, zc29, ze29, ty32, zc32, ze32, ty37, zc37, ze37, ty38, zc38, ze38, ty41, zc41, ze41, ty46, zc46, ze46, ty48, zc48, ze48, ty50, zc50, ze50, ty52, zc52, ze52, ty53, zc53, ze53, ty55, zc55, ze55, ty60, zc60, ze60, ty70, zc70, ze70, ty73, zc73, ze73, ty74, zc74, ze74, ty81, zc81, ze81, ty82, zc82, ze82, ty88, zc88, ze88, ty93, zc93, ze93, ty94, zc94, ze94, ty96, zc96, ze96, ty97, ty103, zc103, ze103⟩
end Go.Proofs.Ytekdlkjonihglaa.AL
