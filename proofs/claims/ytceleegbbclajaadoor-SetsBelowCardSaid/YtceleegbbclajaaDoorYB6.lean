/- The arguments of the laws of sets, and the table of math/bits, taken up from their readings. -/
import Derived.Test.YtceleegbbclajaaDoorYB1
import Derived.Test.YtceleegbbclajaaDoorYAT
import Derived.Test.YtceleegbbclajaaDoorYF3
import Derived.Test.YtceleegbbclajaaDoorRows
import Derived.LaidMore
import Derived.OpenShut
import Derived.ChangeArms
import Derived.FnData
import Derived.Stop.Joined
namespace Go.Proofs.YtceleegbbclajaaDoor.AL
open Go Go.RowKit
set_option linter.unusedVariables false
theorem rW64 (n : Nat) : RUp Tryd.prog n 22 1 (AV.int .u64) (fun x => (Lit.int .u64 x).wf = true) := rint Tryd.underlying22
theorem rU8 (n : Nat) : RUp Tryd.prog n 5 1 (AV.int .u8) (fun x => (Lit.int .u8 x).wf = true) := rint Tryd.underlying5
theorem rI64 (n : Nat) : RUp Tryd.prog n 3 1 (AV.int .i64) (fun x => (Lit.int .i64 x).wf = true) := rint Tryd.underlying3
theorem rInts (n : Nat) : RUp Tryd.prog n 31 1 intsE (fun _ => True) :=
  RUp.weak ((rslice (b := 8) Tryd.underlying31 (by decide) (by kernel_rfl) (by kernel_rfl) (rint Tryd.underlying3 (n := n))).le (Nat.le_succ n)) (fun _ _ => trivial)
theorem u64_of {x : Int} (h : (Lit.int .u64 x).wf = true) : ∃ m : Nat, m < 18446744073709551616 ∧ x = (m : Int) := by
  have h' : 0 ≤ x ∧ x ≤ 18446744073709551615 := by
    simpa [Lit.wf, IntKind.min, IntKind.max, IntKind.signed, IntKind.bits] using h
  exact ⟨x.toNat, by omega, by omega⟩
theorem u8_of {x : Int} (h : (Lit.int .u8 x).wf = true) : ∃ m : Nat, m < 256 ∧ x = (m : Int) := by
  have h' : 0 ≤ x ∧ x ≤ 255 := by
    simpa [Lit.wf, IntKind.min, IntKind.max, IntKind.signed, IntKind.bits] using h
  exact ⟨x.toNat, by omega, by omega⟩
theorem i64_of {x : Int} (h : (Lit.int .i64 x).wf = true) : -9223372036854775808 ≤ x := by
  have h' : -9223372036854775808 ≤ x ∧ x ≤ 9223372036854775807 := by
    simpa [Lit.wf, IntKind.min, IntKind.max, IntKind.signed, IntKind.bits] using h
  exact h'.1
abbrev laidT : List (String × DataW Unit) := [("math/bits.deBruijn64tab", Rows.laid_math_bits_deBruijn64tab)]
theorem laid_deB : (Rows.laid_math_bits_deBruijn64tab : DataW Unit) = .agg (deB.map fun n => .lit (.int .u8 n)) := rfl
theorem tab_of_laid {W : World} (h : laidMetH Tryd.prog laidT W) : TabM (MW W) := by
  rw [MakeChecks.laidMetH_plain _ _ _ (by kernel_rfl)] at h
  obtain ⟨ps, ⟨g1, t1, cs1, f1, p1, q1, hg1, ht1, hv1, hd1, _, _⟩, _, _⟩ := h
  obtain rfl := Option.some.inj ((show Tryd.prog.globalNamed "math/bits.deBruijn64tab" = some 0 by kernel_rfl).symm.trans hg1)
  obtain rfl := Option.some.inj ((show (Tryd.prog.globals[0]?).map (·.type) = some 48 by kernel_rfl).symm.trans ht1)
  obtain ⟨xs, m1, rfl, hx1, hlen, hn3, hel⟩ := DataW.trod_array Tryd.underlying48 hd1
  have c5 : Tryd.prog.cellsOf 5 = 1 := by kernel_rfl
  rw [laid_deB] at hx1
  simp only [Prod.mk.injEq, DataW.agg.injEq] at hx1
  have hx := hx1.1
  intro e he j v hv
  obtain rfl : e = (0, deB.map (.int .u8)) := by simpa [tabs] using he
  rw [List.getElem?_map] at hv
  cases hj : deB[j]? with
  | none => rw [hj] at hv; cases hv
  | some n =>
    rw [hj] at hv
    simp only [Option.map_some, Option.some.injEq] at hv
    subst hv
    have hjl : j < 64 := (List.getElem?_eq_some_iff.1 hj).1
    have h1 := hel j hjl
    rw [c5, Nat.mul_one] at h1
    cases hy : xs[j]? with
    | none => have := List.getElem?_eq_none_iff.1 hy; omega
    | some y =>
      rw [hy] at h1
      have h2 : (xs.map (·.1))[j]? = some y.1 := by rw [List.getElem?_map, hy]; rfl
      rw [← hx, List.getElem?_map, hj] at h2
      simp only [Option.map_some, Option.some.injEq] at h2
      obtain ⟨k, e1, e2, _⟩ := DataW.trod_int Tryd.underlying5 h1
      have hk : k = n := by rw [e2] at h2; simpa using h2.symm
      subst hk
      have h3 : cs1.toList[j]? = some (.int .u8 k) := by
        have h4 : ((cs1.toList.drop j).take 1)[0]? = some (.int .u8 k) := by rw [e1]; rfl
        simpa [List.getElem?_take, List.getElem?_drop] using h4
      refine MW_some ?_ rfl
      rw [World.var?_cell hg1 hv1 j]
      simpa using h3
end Go.Proofs.YtceleegbbclajaaDoor.AL
