/- The program's types, as the abstract states see them. -/
import Derived.Test.YtigkkfhpnfjmhaaYMB
import Derived.Test.YtigkkfhpnfjmhaaProg
namespace Go.Proofs.Ytigkkfhpnfjmhaa.AL
open Go
theorem ty0 : aty Try.prog 0 = .scal := by kernel_rfl
theorem ty2 : aty Try.prog 2 = .int .i64 := by kernel_rfl
theorem zc2 : zeroC Try.prog 2 = some [.int .i64 0] := by kernel_rfl
theorem ze2 : zeroE Try.prog 2 = some (.int .i64 0) := by kernel_rfl
theorem ty3 : aty Try.prog 3 = .int .i64 := by kernel_rfl
theorem zc3 : zeroC Try.prog 3 = some [.int .i64 0] := by kernel_rfl
theorem ze3 : zeroE Try.prog 3 = some (.int .i64 0) := by kernel_rfl
theorem ty4 : aty Try.prog 4 = .bool := by kernel_rfl
theorem zc4 : zeroC Try.prog 4 = some [.bool false] := by kernel_rfl
theorem ze4 : zeroE Try.prog 4 = some (.bool false) := by kernel_rfl
theorem ty5 : aty Try.prog 5 = .int .u8 := by kernel_rfl
theorem zc5 : zeroC Try.prog 5 = some [.int .u8 0] := by kernel_rfl
theorem ze5 : zeroE Try.prog 5 = some (.int .u8 0) := by kernel_rfl
theorem ty22 : aty Try.prog 22 = .slice 25 5 72 := by kernel_rfl
theorem zc22 : zeroC Try.prog 22 = some [.sl 5 []] := by kernel_rfl
theorem ze22 : zeroE Try.prog 22 = some (.sl 5 []) := by kernel_rfl
theorem ty23 : aty Try.prog 23 = .slice 46 14 128 := by kernel_rfl
theorem zc23 : zeroC Try.prog 23 = some [.sl 14 []] := by kernel_rfl
theorem ze23 : zeroE Try.prog 23 = some (.sl 14 []) := by kernel_rfl
theorem ty25 : aty Try.prog 25 = .struct 5 [(0, 1, false), (1, 1, false), (2, 1, false), (3, 1, false), (4, 1, false)] := by kernel_rfl
theorem zc25 : zeroC Try.prog 25 = some [.int .i64 0, .int .i64 0, .sl 5 [], .sl 14 [], .bool false] := by kernel_rfl
theorem ze25 : zeroE Try.prog 25 = some (.agg [.int .i64 0, .int .i64 0, .sl 5 [], .sl 14 [], .bool false]) := by kernel_rfl
theorem ty28 : aty Try.prog 28 = .int .u64 := by kernel_rfl
theorem zc28 : zeroC Try.prog 28 = some [.int .u64 0] := by kernel_rfl
theorem ze28 : zeroE Try.prog 28 = some (.int .u64 0) := by kernel_rfl
theorem ty30 : aty Try.prog 30 = .scal := by kernel_rfl
theorem zc30 : zeroC Try.prog 30 = some [.nilF] := by kernel_rfl
theorem ze30 : zeroE Try.prog 30 = some (.nilF) := by kernel_rfl
theorem ty34 : aty Try.prog 34 = .slice 3 1 8 := by kernel_rfl
theorem zc34 : zeroC Try.prog 34 = some [.sl 1 []] := by kernel_rfl
theorem ze34 : zeroE Try.prog 34 = some (.sl 1 []) := by kernel_rfl
theorem ty37 : aty Try.prog 37 = .scal := by kernel_rfl
theorem zc37 : zeroC Try.prog 37 = some [.nilF] := by kernel_rfl
theorem ze37 : zeroE Try.prog 37 = some (.nilF) := by kernel_rfl
theorem ty39 : aty Try.prog 39 = .arr 3 3 1 false := by kernel_rfl
theorem zc39 : zeroC Try.prog 39 = some [.bool false, .bool false, .bool false] := by kernel_rfl
theorem ze39 : zeroE Try.prog 39 = some (.agg [.bool false, .bool false, .bool false]) := by kernel_rfl
theorem ty42 : aty Try.prog 42 = .struct 2 [(0, 1, false), (1, 1, false)] := by kernel_rfl
theorem zc42 : zeroC Try.prog 42 = some [.bool false, .int .i64 0] := by kernel_rfl
theorem ze42 : zeroE Try.prog 42 = some (.agg [.bool false, .int .i64 0]) := by kernel_rfl
theorem ty44 : aty Try.prog 44 = .struct 5 [(0, 1, false), (1, 1, false), (2, 1, false), (3, 2, true)] := by kernel_rfl
theorem zc44 : zeroC Try.prog 44 = some [.int .i64 0, .int .i64 0, .int .i64 0, .bool false, .int .i64 0] := by kernel_rfl
theorem ze44 : zeroE Try.prog 44 = some (.agg [.int .i64 0, .int .i64 0, .int .i64 0, .bool false, .int .i64 0]) := by kernel_rfl
theorem ty46 : aty Try.prog 46 = .struct 14 [(0, 1, false), (1, 1, false), (2, 1, false), (3, 5, true), (8, 5, true), (13, 1, false)] := by kernel_rfl
theorem zc46 : zeroC Try.prog 46 = some [.int .i64 0, .int .i64 0, .int .i64 0, .int .i64 0, .int .i64 0, .int .i64 0, .bool false, .int .i64 0, .int .i64 0, .int .i64 0, .int .i64 0, .bool false, .int .i64 0, .sl 14 []] := by kernel_rfl
theorem ze46 : zeroE Try.prog 46 = some (.agg [.int .i64 0, .int .i64 0, .int .i64 0, .int .i64 0, .int .i64 0, .int .i64 0, .bool false, .int .i64 0, .int .i64 0, .int .i64 0, .int .i64 0, .bool false, .int .i64 0, .sl 14 []]) := by kernel_rfl
theorem ty49 : aty Try.prog 49 = .arr 2 2 1 false := by kernel_rfl
theorem zc49 : zeroC Try.prog 49 = some [.int .u64 0, .int .u64 0] := by kernel_rfl
theorem ze49 : zeroE Try.prog 49 = some (.agg [.int .u64 0, .int .u64 0]) := by kernel_rfl
theorem ty51 : aty Try.prog 51 = .slice 53 1 24 := by kernel_rfl
theorem zc51 : zeroC Try.prog 51 = some [.sl 1 []] := by kernel_rfl
theorem ze51 : zeroE Try.prog 51 = some (.sl 1 []) := by kernel_rfl
theorem ty53 : aty Try.prog 53 = .slice 42 2 16 := by kernel_rfl
theorem zc53 : zeroC Try.prog 53 = some [.sl 2 []] := by kernel_rfl
theorem ze53 : zeroE Try.prog 53 = some (.sl 2 []) := by kernel_rfl
theorem ty59 : aty Try.prog 59 = .slice 61 2 16 := by kernel_rfl
theorem zc59 : zeroC Try.prog 59 = some [.sl 2 []] := by kernel_rfl
theorem ze59 : zeroE Try.prog 59 = some (.sl 2 []) := by kernel_rfl
theorem ty60 : aty Try.prog 60 = .scal := by kernel_rfl
theorem zc60 : zeroC Try.prog 60 = some [.nilF] := by kernel_rfl
theorem ze60 : zeroE Try.prog 60 = some (.nilF) := by kernel_rfl
theorem ty61 : aty Try.prog 61 = .arr 2 2 1 false := by kernel_rfl
theorem zc61 : zeroC Try.prog 61 = some [.int .i64 0, .int .i64 0] := by kernel_rfl
theorem ze61 : zeroE Try.prog 61 = some (.agg [.int .i64 0, .int .i64 0]) := by kernel_rfl
theorem ty62 : aty Try.prog 62 = .scal := by kernel_rfl
theorem zc62 : zeroC Try.prog 62 = some [.nilF] := by kernel_rfl
theorem ze62 : zeroE Try.prog 62 = some (.nilF) := by kernel_rfl
theorem ty63 : aty Try.prog 63 = .scal := by kernel_rfl
theorem zc63 : zeroC Try.prog 63 = some [.nilF] := by kernel_rfl
theorem ze63 : zeroE Try.prog 63 = some (.nilF) := by kernel_rfl
theorem ty71 : aty Try.prog 71 = .scal := by kernel_rfl
theorem zc71 : zeroC Try.prog 71 = some [.nilF] := by kernel_rfl
theorem ze71 : zeroE Try.prog 71 = some (.nilF) := by kernel_rfl
theorem ty72 : aty Try.prog 72 = .scal := by kernel_rfl
theorem zc72 : zeroC Try.prog 72 = some [.nilF] := by kernel_rfl
theorem ze72 : zeroE Try.prog 72 = some (.nilF) := by kernel_rfl
theorem ty83 : aty Try.prog 83 = .scal := by kernel_rfl
theorem zc83 : zeroC Try.prog 83 = some [.nilF] := by kernel_rfl
theorem ze83 : zeroE Try.prog 83 = some (.nilF) := by kernel_rfl
theorem ty88 : aty Try.prog 88 = .scal := by kernel_rfl
theorem zc88 : zeroC Try.prog 88 = some [.nilF] := by kernel_rfl
theorem ze88 : zeroE Try.prog 88 = some (.nilF) := by kernel_rfl
theorem ty92 : aty Try.prog 92 = .slice 44 5 40 := by kernel_rfl
theorem zc92 : zeroC Try.prog 92 = some [.sl 5 []] := by kernel_rfl
theorem ze92 : zeroE Try.prog 92 = some (.sl 5 []) := by kernel_rfl
theorem ty95 : aty Try.prog 95 = .slice 28 1 8 := by kernel_rfl
theorem zc95 : zeroC Try.prog 95 = some [.sl 1 []] := by kernel_rfl
theorem ze95 : zeroE Try.prog 95 = some (.sl 1 []) := by kernel_rfl
theorem ty98 : aty Try.prog 98 = .scal := by kernel_rfl
theorem zc98 : zeroC Try.prog 98 = some [.nilF] := by kernel_rfl
theorem ze98 : zeroE Try.prog 98 = some (.nilF) := by kernel_rfl
theorem ty103 : aty Try.prog 103 = .arr 3 3 1 false := by kernel_rfl
theorem zc103 : zeroC Try.prog 103 = some [.int .i64 0, .int .i64 0, .int .i64 0] := by kernel_rfl
theorem ze103 : zeroE Try.prog 103 = some (.agg [.int .i64 0, .int .i64 0, .int .i64 0]) := by kernel_rfl
theorem ty104 : aty Try.prog 104 = .arr 21 7 3 true := by kernel_rfl
theorem zc104 : zeroC Try.prog 104 = some [.int .i64 0, .int .i64 0, .int .i64 0, .int .i64 0, .int .i64 0, .int .i64 0, .int .i64 0, .int .i64 0, .int .i64 0, .int .i64 0, .int .i64 0, .int .i64 0, .int .i64 0, .int .i64 0, .int .i64 0, .int .i64 0, .int .i64 0, .int .i64 0, .int .i64 0, .int .i64 0, .int .i64 0] := by kernel_rfl
theorem ze104 : zeroE Try.prog 104 = some (.agg [.int .i64 0, .int .i64 0, .int .i64 0, .int .i64 0, .int .i64 0, .int .i64 0, .int .i64 0, .int .i64 0, .int .i64 0, .int .i64 0, .int .i64 0, .int .i64 0, .int .i64 0, .int .i64 0, .int .i64 0, .int .i64 0, .int .i64 0, .int .i64 0, .int .i64 0, .int .i64 0, .int .i64 0]) := by kernel_rfl
theorem ty107 : aty Try.prog 107 = .scal := by kernel_rfl
theorem zc107 : zeroC Try.prog 107 = some [.nilF] := by kernel_rfl
theorem ze107 : zeroE Try.prog 107 = some (.nilF) := by kernel_rfl
theorem ty110 : aty Try.prog 110 = .int .u64 := by kernel_rfl
theorem zc110 : zeroC Try.prog 110 = some [.int .u64 0] := by kernel_rfl
theorem ze110 : zeroE Try.prog 110 = some (.int .u64 0) := by kernel_rfl
/-- All of them. -/
theorem tys : (aty Try.prog 0 = .scal) ∧ (aty Try.prog 2 = .int .i64) ∧ (zeroC Try.prog 2 = some [.int .i64 0]) ∧ (zeroE Try.prog 2 = some (.int .i64 0)) ∧ (aty Try.prog 3 = .int .i64) ∧ (zeroC Try.prog 3 = some [.int .i64 0]) ∧ (zeroE Try.prog 3 = some (.int .i64 0)) ∧ (aty Try.prog 4 = .bool) ∧ (zeroC Try.prog 4 = some [.bool false]) ∧ (zeroE Try.prog 4 = some (.bool false)) ∧ (aty Try.prog 5 = .int .u8) ∧ (zeroC Try.prog 5 = some [.int .u8 0]) ∧ (zeroE Try.prog 5 = some (.int .u8 0)) ∧ (aty Try.prog 22 = .slice 25 5 72) ∧ (zeroC Try.prog 22 = some [.sl 5 []]) ∧ (zeroE Try.prog 22 = some (.sl 5 [])) ∧ (aty Try.prog 23 = .slice 46 14 128) ∧ (zeroC Try.prog 23 = some [.sl 14 []]) ∧ (zeroE Try.prog 23 = some (.sl 14 [])) ∧ (aty Try.prog 25 = .struct 5 [(0, 1, false), (1, 1, false), (2, 1, false), (3, 1, false), (4, 1, false)]) ∧ (zeroC Try.prog 25 = some [.int .i64 0, .int .i64 0, .sl 5 [], .sl 14 [], .bool false]) ∧ (zeroE Try.prog 25 = some (.agg [.int .i64 0, .int .i64 0, .sl 5 [], .sl 14 [], .bool false])) ∧ (aty Try.prog 28 = .int .u64) ∧ (zeroC Try.prog 28 = some [.int .u64 0]) ∧ (zeroE Try.prog 28 = some (.int .u64 0)) ∧ (aty Try.prog 30 = .scal) ∧ (zeroC Try.prog 30 = some [.nilF]) ∧ (zeroE Try.prog 30 = some (.nilF)) ∧ (aty Try.prog 34 = .slice 3 1 8) ∧ (zeroC Try.prog 34 = some [.sl 1 []]) ∧ (zeroE Try.prog 34 = some (.sl 1 [])) ∧ (aty Try.prog 37 = .scal) ∧ (zeroC Try.prog 37 = some [.nilF]) ∧ (zeroE Try.prog 37 = some (.nilF)) ∧ (aty Try.prog 39 = .arr 3 3 1 false) ∧ (zeroC Try.prog 39 = some [.bool false, .bool false, .bool false]) ∧ (zeroE Try.prog 39 = some (.agg [.bool false, .bool false, .bool false])) ∧ (aty Try.prog 42 = .struct 2 [(0, 1, false), (1, 1, false)]) ∧ (zeroC Try.prog 42 = some [.bool false, .int .i64 0]) ∧ (zeroE Try.prog 42 = some (.agg [.bool false, .int .i64 0])) ∧ (aty Try.prog 44 = .struct 5 [(0, 1, false), (1, 1, false), (2, 1, false), (3, 2, true)]) ∧ (zeroC Try.prog 44 = some [.int .i64 0, .int .i64 0, .int .i64 0, .bool false, .int .i64 0]) ∧ (zeroE Try.prog 44 = some (.agg [.int .i64 0, .int .i64 0, .int .i64 0, .bool false, .int .i64 0])) ∧ (aty Try.prog 46 = .struct 14 [(0, 1, false), (1, 1, false), (2, 1, false), (3, 5, true), (8, 5, true), (13, 1, false)]) ∧ (zeroC Try.prog 46 = some [.int .i64 0, .int .i64 0, .int .i64 0, .int .i64 0, .int .i64 0, .int .i64 0, .bool false, .int .i64 0, .int .i64 0, .int .i64 0, .int .i64 0, .bool false, .int .i64 0, .sl 14 []]) ∧ (zeroE Try.prog 46 = some (.agg [.int .i64 0, .int .i64 0, .int .i64 0, .int .i64 0, .int .i64 0, .int .i64 0, .bool false, .int .i64 0, .int .i64 0, .int .i64 0, .int .i64 0, .bool false, .int .i64 0, .sl 14 []])) ∧ (aty Try.prog 49 = .arr 2 2 1 false) ∧ (zeroC Try.prog 49 = some [.int .u64 0, .int .u64 0]) ∧ (zeroE Try.prog 49 = some (.agg [.int .u64 0, .int .u64 0])) ∧ (aty Try.prog 51 = .slice 53 1 24) ∧ (zeroC Try.prog 51 = some [.sl 1 []]) ∧ (zeroE Try.prog 51 = some (.sl 1 [])) ∧ (aty Try.prog 53 = .slice 42 2 16) ∧ (zeroC Try.prog 53 = some [.sl 2 []]) ∧ (zeroE Try.prog 53 = some (.sl 2 [])) ∧ (aty Try.prog 59 = .slice 61 2 16) ∧ (zeroC Try.prog 59 = some [.sl 2 []]) ∧ (zeroE Try.prog 59 = some (.sl 2 [])) ∧ (aty Try.prog 60 = .scal) ∧ (zeroC Try.prog 60 = some [.nilF]) ∧ (zeroE Try.prog 60 = some (.nilF)) ∧ (aty Try.prog 61 = .arr 2 2 1 false) ∧ (zeroC Try.prog 61 = some [.int .i64 0, .int .i64 0]) ∧ (zeroE Try.prog 61 = some (.agg [.int .i64 0, .int .i64 0])) ∧ (aty Try.prog 62 = .scal) ∧ (zeroC Try.prog 62 = some [.nilF]) ∧ (zeroE Try.prog 62 = some (.nilF)) ∧ (aty Try.prog 63 = .scal) ∧ (zeroC Try.prog 63 = some [.nilF]) ∧ (zeroE Try.prog 63 = some (.nilF)) ∧ (aty Try.prog 71 = .scal) ∧ (zeroC Try.prog 71 = some [.nilF]) ∧ (zeroE Try.prog 71 = some (.nilF)) ∧ (aty Try.prog 72 = .scal) ∧ (zeroC Try.prog 72 = some [.nilF]) ∧ (zeroE Try.prog 72 = some (.nilF)) ∧ (aty Try.prog 83 = .scal) ∧ (zeroC Try.prog 83 = some [.nilF]) ∧ (zeroE Try.prog 83 = some (.nilF)) ∧ (aty Try.prog 88 = .scal) ∧ (zeroC Try.prog 88 = some [.nilF]) ∧ (zeroE Try.prog 88 = some (.nilF)) ∧ (aty Try.prog 92 = .slice 44 5 40) ∧ (zeroC Try.prog 92 = some [.sl 5 []]) ∧ (zeroE Try.prog 92 = some (.sl 5 [])) ∧ (aty Try.prog 95 = .slice 28 1 8) ∧ (zeroC Try.prog 95 = some [.sl 1 []]) ∧ (zeroE Try.prog 95 = some (.sl 1 [])) ∧ (aty Try.prog 98 = .scal) ∧ (zeroC Try.prog 98 = some [.nilF]) ∧ (zeroE Try.prog 98 = some (.nilF)) ∧ (aty Try.prog 103 = .arr 3 3 1 false) ∧ (zeroC Try.prog 103 = some [.int .i64 0, .int .i64 0, .int .i64 0]) ∧ (zeroE Try.prog 103 = some (.agg [.int .i64 0, .int .i64 0, .int .i64 0])) ∧ (aty Try.prog 104 = .arr 21 7 3 true) ∧ (zeroC Try.prog 104 = some [.int .i64 0, .int .i64 0, .int .i64 0, .int .i64 0, .int .i64 0, .int .i64 0, .int .i64 0, .int .i64 0, .int .i64 0, .int .i64 0, .int .i64 0, .int .i64 0, .int .i64 0, .int .i64 0, .int .i64 0, .int .i64 0, .int .i64 0, .int .i64 0, .int .i64 0, .int .i64 0, .int .i64 0]) ∧ (zeroE Try.prog 104 = some (.agg [.int .i64 0, .int .i64 0, .int .i64 0, .int .i64 0, .int .i64 0, .int .i64 0, .int .i64 0, .int .i64 0, .int .i64 0, .int .i64 0, .int .i64 0, .int .i64 0, .int .i64 0, .int .i64 0, .int .i64 0, .int .i64 0, .int .i64 0, .int .i64 0, .int .i64 0, .int .i64 0, .int .i64 0])) ∧ (aty Try.prog 107 = .scal) ∧ (zeroC Try.prog 107 = some [.nilF]) ∧ (zeroE Try.prog 107 = some (.nilF)) ∧ (aty Try.prog 110 = .int .u64) ∧ (zeroC Try.prog 110 = some [.int .u64 0]) ∧ (zeroE Try.prog 110 = some (.int .u64 0)) := ⟨ty0, ty2, zc2, ze2, ty3, zc3, ze3, ty4, zc4, ze4, ty5, zc5, ze5, ty22, zc22, ze22, ty23, zc23, ze23, ty25, zc25, ze25, ty28, zc28, ze28, ty30, zc30, ze30, ty34, zc34, ze34, ty37, zc37, ze37, ty39, zc39, ze39, ty42, zc42, ze42, ty44, zc44, ze44, ty46, zc46, ze46, ty49, zc49, ze49, ty51, zc51, ze51, ty53, zc53, ze53, ty59, zc59, ze59, ty60, zc60, ze60, ty61, zc61, ze61, ty62, zc62, ze62, ty63, zc63, ze63, ty71, zc71, ze71, ty72, zc72, ze72, ty83, zc83, ze83, ty88, zc88, ze88, ty92, zc92, ze92, ty95, zc95, ze95, ty98, zc98, ze98, ty103, zc103, ze103, ty104, zc104, ze104, ty107, zc107, ze107, ty110, zc110, ze110⟩
end Go.Proofs.Ytigkkfhpnfjmhaa.AL
