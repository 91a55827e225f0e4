/- The program's types, as the abstract states see them. -/
import Derived.Test.YtenigafbbdjagaaYMB
import Derived.Test.YtenigafbbdjagaaProg
namespace Go.Proofs.Ytenigafbbdjagaa.AL
open Go
theorem ty0 : aty Try.prog 0 = .scal := by kernel_rfl
theorem ty3 : aty Try.prog 3 = .int .i64 := by kernel_rfl
theorem zc3 : zeroC Try.prog 3 = some [.int .i64 0] := by kernel_rfl
theorem ze3 : zeroE Try.prog 3 = some (.int .i64 0) := by kernel_rfl
theorem ty4 : aty Try.prog 4 = .bool := by kernel_rfl
theorem zc4 : zeroC Try.prog 4 = some [.bool false] := by kernel_rfl
theorem ze4 : zeroE Try.prog 4 = some (.bool false) := by kernel_rfl
theorem ty5 : aty Try.prog 5 = .int .u8 := by kernel_rfl
theorem zc5 : zeroC Try.prog 5 = some [.int .u8 0] := by kernel_rfl
theorem ze5 : zeroE Try.prog 5 = some (.int .u8 0) := by kernel_rfl
theorem ty9 : aty Try.prog 9 = .str := by kernel_rfl
theorem zc9 : zeroC Try.prog 9 = some [.str []] := by kernel_rfl
theorem ze9 : zeroE Try.prog 9 = some (.str []) := by kernel_rfl
theorem ty20 : aty Try.prog 20 = .scal := by kernel_rfl
theorem zc20 : zeroC Try.prog 20 = some [.nilI] := by kernel_rfl
theorem ze20 : zeroE Try.prog 20 = some (.nilI) := by kernel_rfl
theorem ty21 : aty Try.prog 21 = .int .i32 := by kernel_rfl
theorem zc21 : zeroC Try.prog 21 = some [.int .i32 0] := by kernel_rfl
theorem ze21 : zeroE Try.prog 21 = some (.int .i32 0) := by kernel_rfl
theorem ty23 : aty Try.prog 23 = .slice 37 3 32 := by kernel_rfl
theorem zc23 : zeroC Try.prog 23 = some [.sl 3 []] := by kernel_rfl
theorem ze23 : zeroE Try.prog 23 = some (.sl 3 []) := by kernel_rfl
theorem ty24 : aty Try.prog 24 = .int .i64 := by kernel_rfl
theorem zc24 : zeroC Try.prog 24 = some [.int .i64 0] := by kernel_rfl
theorem ze24 : zeroE Try.prog 24 = some (.int .i64 0) := by kernel_rfl
theorem ty25 : aty Try.prog 25 = .scal := by kernel_rfl
theorem ty27 : aty Try.prog 27 = .slice 45 3 32 := by kernel_rfl
theorem zc27 : zeroC Try.prog 27 = some [.sl 3 []] := by kernel_rfl
theorem ze27 : zeroE Try.prog 27 = some (.sl 3 []) := by kernel_rfl
theorem ty28 : aty Try.prog 28 = .scal := by kernel_rfl
theorem ty37 : aty Try.prog 37 = .struct 3 [(0, 1, false), (1, 1, false), (2, 1, false)] := by kernel_rfl
theorem zc37 : zeroC Try.prog 37 = some [.int .i64 0, .str [], .int .i64 0] := by kernel_rfl
theorem ze37 : zeroE Try.prog 37 = some (.agg [.int .i64 0, .str [], .int .i64 0]) := by kernel_rfl
theorem ty39 : aty Try.prog 39 = .slice 21 1 4 := by kernel_rfl
theorem zc39 : zeroC Try.prog 39 = some [.sl 1 []] := by kernel_rfl
theorem ze39 : zeroE Try.prog 39 = some (.sl 1 []) := by kernel_rfl
theorem ty43 : aty Try.prog 43 = .scal := by kernel_rfl
theorem ty45 : aty Try.prog 45 = .struct 3 [(0, 1, false), (1, 1, false), (2, 1, false)] := by kernel_rfl
theorem zc45 : zeroC Try.prog 45 = some [.int .i64 0, .str [], .int .i64 0] := by kernel_rfl
theorem ze45 : zeroE Try.prog 45 = some (.agg [.int .i64 0, .str [], .int .i64 0]) := by kernel_rfl
theorem ty46 : aty Try.prog 46 = .slice 9 1 16 := by kernel_rfl
theorem zc46 : zeroC Try.prog 46 = some [.sl 1 []] := by kernel_rfl
theorem ze46 : zeroE Try.prog 46 = some (.sl 1 []) := by kernel_rfl
theorem ty48 : aty Try.prog 48 = .scal := by kernel_rfl
theorem zc48 : zeroC Try.prog 48 = some [.nilP] := by kernel_rfl
theorem ze48 : zeroE Try.prog 48 = some (.nilP) := by kernel_rfl
theorem ty49 : aty Try.prog 49 = .slice 5 1 1 := by kernel_rfl
theorem zc49 : zeroC Try.prog 49 = some [.sl 1 []] := by kernel_rfl
theorem ze49 : zeroE Try.prog 49 = some (.sl 1 []) := by kernel_rfl
theorem ty51 : aty Try.prog 51 = .struct 2 [(0, 1, false), (1, 1, false)] := by kernel_rfl
theorem zc51 : zeroC Try.prog 51 = some [.nilP, .sl 1 []] := by kernel_rfl
theorem ze51 : zeroE Try.prog 51 = some (.agg [.nilP, .sl 1 []]) := by kernel_rfl
theorem ty54 : aty Try.prog 54 = .scal := by kernel_rfl
theorem zc54 : zeroC Try.prog 54 = some [.nilI] := by kernel_rfl
theorem ze54 : zeroE Try.prog 54 = some (.nilI) := by kernel_rfl
theorem ty55 : aty Try.prog 55 = .scal := by kernel_rfl
theorem ty59 : aty Try.prog 59 = .scal := by kernel_rfl
theorem zc59 : zeroC Try.prog 59 = some [.nilP] := by kernel_rfl
theorem ze59 : zeroE Try.prog 59 = some (.nilP) := by kernel_rfl
theorem ty64 : aty Try.prog 64 = .scal := by kernel_rfl
/-- All of them. -/
theorem tys : (aty Try.prog 0 = .scal) ∧ (aty Try.prog 3 = .int .i64) ∧ (zeroC Try.prog 3 = some [.int .i64 0]) ∧ (zeroE Try.prog 3 = some (.int .i64 0)) ∧ (aty Try.prog 4 = .bool) ∧ (zeroC Try.prog 4 = some [.bool false]) ∧ (zeroE Try.prog 4 = some (.bool false)) ∧ (aty Try.prog 5 = .int .u8) ∧ (zeroC Try.prog 5 = some [.int .u8 0]) ∧ (zeroE Try.prog 5 = some (.int .u8 0)) ∧ (aty Try.prog 9 = .str) ∧ (zeroC Try.prog 9 = some [.str []]) ∧ (zeroE Try.prog 9 = some (.str [])) ∧ (aty Try.prog 20 = .scal) ∧ (zeroC Try.prog 20 = some [.nilI]) ∧ (zeroE Try.prog 20 = some (.nilI)) ∧ (aty Try.prog 21 = .int .i32) ∧ (zeroC Try.prog 21 = some [.int .i32 0]) ∧ (zeroE Try.prog 21 = some (.int .i32 0)) ∧ (aty Try.prog 23 = .slice 37 3 32) ∧ (zeroC Try.prog 23 = some [.sl 3 []]) ∧ (zeroE Try.prog 23 = some (.sl 3 [])) ∧ (aty Try.prog 24 = .int .i64) ∧ (zeroC Try.prog 24 = some [.int .i64 0]) ∧ (zeroE Try.prog 24 = some (.int .i64 0)) ∧ (aty Try.prog 25 = .scal) ∧ (aty Try.prog 27 = .slice 45 3 32) ∧ (zeroC Try.prog 27 = some [.sl 3 []]) ∧ (zeroE Try.prog 27 = some (.sl 3 [])) ∧ (aty Try.prog 28 = .scal) ∧ (aty Try.prog 37 = .struct 3 [(0, 1, false), (1, 1, false), (2, 1, false)]) ∧ (zeroC Try.prog 37 = some [.int .i64 0, .str [], .int .i64 0]) ∧ (zeroE Try.prog 37 = some (.agg [.int .i64 0, .str [], .int .i64 0])) ∧ (aty Try.prog 39 = .slice 21 1 4) ∧ (zeroC Try.prog 39 = some [.sl 1 []]) ∧ (zeroE Try.prog 39 = some (.sl 1 [])) ∧ (aty Try.prog 43 = .scal) ∧ (aty Try.prog 45 = .struct 3 [(0, 1, false), (1, 1, false), (2, 1, false)]) ∧ (zeroC Try.prog 45 = some [.int .i64 0, .str [], .int .i64 0]) ∧ (zeroE Try.prog 45 = some (.agg [.int .i64 0, .str [], .int .i64 0])) ∧ (aty Try.prog 46 = .slice 9 1 16) ∧ (zeroC Try.prog 46 = some [.sl 1 []]) ∧ (zeroE Try.prog 46 = some (.sl 1 [])) ∧ (aty Try.prog 48 = .scal) ∧ (zeroC Try.prog 48 = some [.nilP]) ∧ (zeroE Try.prog 48 = some (.nilP)) ∧ (aty Try.prog 49 = .slice 5 1 1) ∧ (zeroC Try.prog 49 = some [.sl 1 []]) ∧ (zeroE Try.prog 49 = some (.sl 1 [])) ∧ (aty Try.prog 51 = .struct 2 [(0, 1, false), (1, 1, false)]) ∧ (zeroC Try.prog 51 = some [.nilP, .sl 1 []]) ∧ (zeroE Try.prog 51 = some (.agg [.nilP, .sl 1 []])) ∧ (aty Try.prog 54 = .scal) ∧ (zeroC Try.prog 54 = some [.nilI]) ∧ (zeroE Try.prog 54 = some (.nilI)) ∧ (aty Try.prog 55 = .scal) ∧ (aty Try.prog 59 = .scal) ∧ (zeroC Try.prog 59 = some [.nilP]) ∧ (zeroE Try.prog 59 = some (.nilP)) ∧ (aty Try.prog 64 = .scal) := ⟨ty0, ty3, zc3, ze3, ty4, zc4, ze4, ty5, zc5, ze5, ty9, zc9, ze9, ty20, zc20, ze20, ty21, zc21, ze21, ty23, zc23, ze23, ty24, zc24, ze24, ty25, ty27, zc27, ze27, ty28, ty37, zc37, ze37, ty39, zc39, ze39, ty43, ty45, zc45, ze45, ty46, zc46, ze46, ty48, zc48, ze48, ty49, zc49, ze49, ty51, zc51, ze51, ty54, zc54, ze54, ty55, ty59, zc59, ze59, ty64⟩
end Go.Proofs.Ytenigafbbdjagaa.AL
