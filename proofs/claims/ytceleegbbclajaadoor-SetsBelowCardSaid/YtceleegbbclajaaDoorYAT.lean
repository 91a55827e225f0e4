/- The program's types, as the abstract states see them. -/
import Derived.Test.YtceleegbbclajaaDoorYMB
import Derived.Test.YtceleegbbclajaaDoorProg
namespace Go.Proofs.YtceleegbbclajaaDoor.AL
open Go
theorem ty0 : aty Tryd.prog 0 = .scal := by kernel_rfl
theorem ty3 : aty Tryd.prog 3 = .int .i64 := by kernel_rfl
theorem zc3 : zeroC Tryd.prog 3 = some [.int .i64 0] := by kernel_rfl
theorem ze3 : zeroE Tryd.prog 3 = some (.int .i64 0) := by kernel_rfl
theorem ty4 : aty Tryd.prog 4 = .bool := by kernel_rfl
theorem zc4 : zeroC Tryd.prog 4 = some [.bool false] := by kernel_rfl
theorem ze4 : zeroE Tryd.prog 4 = some (.bool false) := by kernel_rfl
theorem ty5 : aty Tryd.prog 5 = .int .u8 := by kernel_rfl
theorem zc5 : zeroC Tryd.prog 5 = some [.int .u8 0] := by kernel_rfl
theorem ze5 : zeroE Tryd.prog 5 = some (.int .u8 0) := by kernel_rfl
theorem ty22 : aty Tryd.prog 22 = .int .u64 := by kernel_rfl
theorem zc22 : zeroC Tryd.prog 22 = some [.int .u64 0] := by kernel_rfl
theorem ze22 : zeroE Tryd.prog 22 = some (.int .u64 0) := by kernel_rfl
theorem ty24 : aty Tryd.prog 24 = .slice 22 1 8 := by kernel_rfl
theorem zc24 : zeroC Tryd.prog 24 = some [.sl 1 []] := by kernel_rfl
theorem ze24 : zeroE Tryd.prog 24 = some (.sl 1 []) := by kernel_rfl
theorem ty31 : aty Tryd.prog 31 = .slice 3 1 8 := by kernel_rfl
theorem zc31 : zeroC Tryd.prog 31 = some [.sl 1 []] := by kernel_rfl
theorem ze31 : zeroE Tryd.prog 31 = some (.sl 1 []) := by kernel_rfl
theorem ty39 : aty Tryd.prog 39 = .scal := by kernel_rfl
theorem zc39 : zeroC Tryd.prog 39 = some [.nilF] := by kernel_rfl
theorem ze39 : zeroE Tryd.prog 39 = some (.nilF) := by kernel_rfl
theorem ty40 : aty Tryd.prog 40 = .scal := by kernel_rfl
theorem zc40 : zeroC Tryd.prog 40 = some [.nilF] := by kernel_rfl
theorem ze40 : zeroE Tryd.prog 40 = some (.nilF) := by kernel_rfl
theorem ty42 : aty Tryd.prog 42 = .scal := by kernel_rfl
theorem zc42 : zeroC Tryd.prog 42 = some [.nilF] := by kernel_rfl
theorem ze42 : zeroE Tryd.prog 42 = some (.nilF) := by kernel_rfl
theorem ty43 : aty Tryd.prog 43 = .scal := by kernel_rfl
theorem zc43 : zeroC Tryd.prog 43 = some [.nilF] := by kernel_rfl
theorem ze43 : zeroE Tryd.prog 43 = some (.nilF) := by kernel_rfl
theorem ty45 : aty Tryd.prog 45 = .scal := by kernel_rfl
theorem zc45 : zeroC Tryd.prog 45 = some [.nilF] := by kernel_rfl
theorem ze45 : zeroE Tryd.prog 45 = some (.nilF) := by kernel_rfl
theorem ty46 : aty Tryd.prog 46 = .int .u64 := by kernel_rfl
theorem zc46 : zeroC Tryd.prog 46 = some [.int .u64 0] := by kernel_rfl
theorem ze46 : zeroE Tryd.prog 46 = some (.int .u64 0) := by kernel_rfl
theorem ty47 : aty Tryd.prog 47 = .scal := by kernel_rfl
theorem zc47 : zeroC Tryd.prog 47 = some [.nilF] := by kernel_rfl
theorem ze47 : zeroE Tryd.prog 47 = some (.nilF) := by kernel_rfl
theorem ty48 : aty Tryd.prog 48 = .arr 64 64 1 false := by kernel_rfl
theorem zc48 : zeroC Tryd.prog 48 = some [.int .u8 0, .int .u8 0, .int .u8 0, .int .u8 0, .int .u8 0, .int .u8 0, .int .u8 0, .int .u8 0, .int .u8 0, .int .u8 0, .int .u8 0, .int .u8 0, .int .u8 0, .int .u8 0, .int .u8 0, .int .u8 0, .int .u8 0, .int .u8 0, .int .u8 0, .int .u8 0, .int .u8 0, .int .u8 0, .int .u8 0, .int .u8 0, .int .u8 0, .int .u8 0, .int .u8 0, .int .u8 0, .int .u8 0, .int .u8 0, .int .u8 0, .int .u8 0, .int .u8 0, .int .u8 0, .int .u8 0, .int .u8 0, .int .u8 0, .int .u8 0, .int .u8 0, .int .u8 0, .int .u8 0, .int .u8 0, .int .u8 0, .int .u8 0, .int .u8 0, .int .u8 0, .int .u8 0, .int .u8 0, .int .u8 0, .int .u8 0, .int .u8 0, .int .u8 0, .int .u8 0, .int .u8 0, .int .u8 0, .int .u8 0, .int .u8 0, .int .u8 0, .int .u8 0, .int .u8 0, .int .u8 0, .int .u8 0, .int .u8 0, .int .u8 0] := by kernel_rfl
theorem ze48 : zeroE Tryd.prog 48 = some (.agg [.int .u8 0, .int .u8 0, .int .u8 0, .int .u8 0, .int .u8 0, .int .u8 0, .int .u8 0, .int .u8 0, .int .u8 0, .int .u8 0, .int .u8 0, .int .u8 0, .int .u8 0, .int .u8 0, .int .u8 0, .int .u8 0, .int .u8 0, .int .u8 0, .int .u8 0, .int .u8 0, .int .u8 0, .int .u8 0, .int .u8 0, .int .u8 0, .int .u8 0, .int .u8 0, .int .u8 0, .int .u8 0, .int .u8 0, .int .u8 0, .int .u8 0, .int .u8 0, .int .u8 0, .int .u8 0, .int .u8 0, .int .u8 0, .int .u8 0, .int .u8 0, .int .u8 0, .int .u8 0, .int .u8 0, .int .u8 0, .int .u8 0, .int .u8 0, .int .u8 0, .int .u8 0, .int .u8 0, .int .u8 0, .int .u8 0, .int .u8 0, .int .u8 0, .int .u8 0, .int .u8 0, .int .u8 0, .int .u8 0, .int .u8 0, .int .u8 0, .int .u8 0, .int .u8 0, .int .u8 0, .int .u8 0, .int .u8 0, .int .u8 0, .int .u8 0]) := by kernel_rfl
/-- All of them. -/
theorem tys : (aty Tryd.prog 0 = .scal) ∧ (aty Tryd.prog 3 = .int .i64) ∧ (zeroC Tryd.prog 3 = some [.int .i64 0]) ∧ (zeroE Tryd.prog 3 = some (.int .i64 0)) ∧ (aty Tryd.prog 4 = .bool) ∧ (zeroC Tryd.prog 4 = some [.bool false]) ∧ (zeroE Tryd.prog 4 = some (.bool false)) ∧ (aty Tryd.prog 5 = .int .u8) ∧ (zeroC Tryd.prog 5 = some [.int .u8 0]) ∧ (zeroE Tryd.prog 5 = some (.int .u8 0)) ∧ (aty Tryd.prog 22 = .int .u64) ∧ (zeroC Tryd.prog 22 = some [.int .u64 0]) ∧ (zeroE Tryd.prog 22 = some (.int .u64 0)) ∧ (aty Tryd.prog 24 = .slice 22 1 8) ∧ (zeroC Tryd.prog 24 = some [.sl 1 []]) ∧ (zeroE Tryd.prog 24 = some (.sl 1 [])) ∧ (aty Tryd.prog 31 = .slice 3 1 8) ∧ (zeroC Tryd.prog 31 = some [.sl 1 []]) ∧ (zeroE Tryd.prog 31 = some (.sl 1 [])) ∧ (aty Tryd.prog 39 = .scal) ∧ (zeroC Tryd.prog 39 = some [.nilF]) ∧ (zeroE Tryd.prog 39 = some (.nilF)) ∧ (aty Tryd.prog 40 = .scal) ∧ (zeroC Tryd.prog 40 = some [.nilF]) ∧ (zeroE Tryd.prog 40 = some (.nilF)) ∧ (aty Tryd.prog 42 = .scal) ∧ (zeroC Tryd.prog 42 = some [.nilF]) ∧ (zeroE Tryd.prog 42 = some (.nilF)) ∧ (aty Tryd.prog 43 = .scal) ∧ (zeroC Tryd.prog 43 = some [.nilF]) ∧ (zeroE Tryd.prog 43 = some (.nilF)) ∧ (aty Tryd.prog 45 = .scal) ∧ (zeroC Tryd.prog 45 = some [.nilF]) ∧ (zeroE Tryd.prog 45 = some (.nilF)) ∧ (aty Tryd.prog 46 = .int .u64) ∧ (zeroC Tryd.prog 46 = some [.int .u64 0]) ∧ (zeroE Tryd.prog 46 = some (.int .u64 0)) ∧ (aty Tryd.prog 47 = .scal) ∧ (zeroC Tryd.prog 47 = some [.nilF]) ∧ (zeroE Tryd.prog 47 = some (.nilF)) ∧ (aty Tryd.prog 48 = .arr 64 64 1 false) ∧ (zeroC Tryd.prog 48 = some [.int .u8 0, .int .u8 0, .int .u8 0, .int .u8 0, .int .u8 0, .int .u8 0, .int .u8 0, .int .u8 0, .int .u8 0, .int .u8 0, .int .u8 0, .int .u8 0, .int .u8 0, .int .u8 0, .int .u8 0, .int .u8 0, .int .u8 0, .int .u8 0, .int .u8 0, .int .u8 0, .int .u8 0, .int .u8 0, .int .u8 0, .int .u8 0, .int .u8 0, .int .u8 0, .int .u8 0, .int .u8 0, .int .u8 0, .int .u8 0, .int .u8 0, .int .u8 0, .int .u8 0, .int .u8 0, .int .u8 0, .int .u8 0, .int .u8 0, .int .u8 0, .int .u8 0, .int .u8 0, .int .u8 0, .int .u8 0, .int .u8 0, .int .u8 0, .int .u8 0, .int .u8 0, .int .u8 0, .int .u8 0, .int .u8 0, .int .u8 0, .int .u8 0, .int .u8 0, .int .u8 0, .int .u8 0, .int .u8 0, .int .u8 0, .int .u8 0, .int .u8 0, .int .u8 0, .int .u8 0, .int .u8 0, .int .u8 0, .int .u8 0, .int .u8 0]) ∧ (zeroE Tryd.prog 48 = some (.agg [.int .u8 0, .int .u8 0, .int .u8 0, .int .u8 0, .int .u8 0, .int .u8 0, .int .u8 0, .int .u8 0, .int .u8 0, .int .u8 0, .int .u8 0, .int .u8 0, .int .u8 0, .int .u8 0, .int .u8 0, .int .u8 0, .int .u8 0, .int .u8 0, .int .u8 0, .int .u8 0, .int .u8 0, .int .u8 0, .int .u8 0, .int .u8 0, .int .u8 0, .int .u8 0, .int .u8 0, .int .u8 0, .int .u8 0, .int .u8 0, .int .u8 0, .int .u8 0, .int .u8 0, .int .u8 0, .int .u8 0, .int .u8 0, .int .u8 0, .int .u8 0, .int .u8 0, .int .u8 0, .int .u8 0, .int .u8 0, .int .u8 0, .int .u8 0, .int .u8 0, .int .u8 0, .int .u8 0, .int .u8 0, .int .u8 0, .int .u8 0, .int .u8 0, .int .u8 0, .int .u8 0, .int .u8 0, .int .u8 0, .int .u8 0, .int .u8 0, .int .u8 0, .int .u8 0, .int .u8 0, .int .u8 0, .int .u8 0, .int .u8 0, .int .u8 0])) := ⟨ty0, ty3, zc3, ze3, ty4, zc4, ze4, ty5, zc5, ze5, ty22, zc22, ze22, ty24, zc24, ze24, ty31, zc31, ze31, ty39, zc39, ze39, ty40, zc40, ze40, ty42, zc42, ze42, ty43, zc43, ze43, ty45, zc45, ze45, ty46, zc46, ze46, ty47, zc47, ze47, ty48, zc48, ze48⟩
end Go.Proofs.YtceleegbbclajaaDoor.AL
