/- For every input the law TokenParts returns true, panics never, and leaves its arguments as they read: no condition. -/
import Derived.Test.YtenigafbbdjagaaRows
import Derived.Test.YtenigafbbdjagaaYB7
import Derived.Test.YtenigafbbdjagaaYK11
import Derived.WalkKit
import Derived.ProofKit
import Derived.OpenShut
import Derived.ShutString
import Derived.ChangeOld
import Derived.Below
import Derived.SizedLaws
namespace Go.Proofs.Ytenigafbbdjagaa.tokenParts
open Go.ChangeShapes Go.WideShapes Go.ChangeAt Go.RowKit Go.Proofs.Ytenigafbbdjagaa.AL
set_option linter.unusedVariables false
theorem own : ownKnob Try.prog.godebug = none := by kernel_rfl
theorem laidOut : laidOutB Try.prog = true := by kernel_rfl
set_option maxRecDepth 100000 in
theorem lifted (os : Os) (started : os.Started) (H : Type) (enc : TypeId × Value → H) :
    ReturnsInHanded {} Try.checked os 5 .any (Rows.tokenPartsSpec.pre6 enc Try.prog Try.f5 Rows.tokenPartsRow.domain false) (Rows.tokenPartsSpec.post enc Try.prog Try.f5 false true false false) := by
  refine returnsInHanded_of_change_sized (C := Try.checked) own started (by kernel_rfl) Try.func5
    (ChangeSpec.witness6 (enc := enc) (C := Try.checked) false ⟨#[], #[.string ⟨#[]⟩], []⟩ 8 (by kernel_rfl) (by kernel_rfl) (by kernel_rfl) (by kernel_rfl)) ?_
  intro W base args ds gs before hval0 hW hcnd hsz0 _
  have hsz : (DataW.weightsEach Try.prog (Try.f5.params.toList ++ Rows.tokenPartsSpec.plain.varTypes Try.prog) (ds ++ gs)).all (· ≤ reachBytes) = true := hsz0
  have hval : ∀ (j : Nat) t v, Try.f5.params[j]? = some t → args[j]? = some v → Value.okWide Try.prog W .any base t v := hval0
  have hW' := hW
  obtain ⟨p, q, hA0, hV, rfl, hfz, hnd⟩ := hW
  have hA : DataW.TrodAll enc Try.prog W 0 (fun _ => true) true Try.f5.params.toList args.toList ds p := hA0
  rw [Try.params5] at hA hval hsz
  obtain ⟨v0, vs0, d0, ds0, p0, q0, hargs, rfl, rfl, h0, r0⟩ := trodAll_cons hA
  obtain ⟨rfl, rfl, rfl⟩ := trodAll_nil r0
  obtain rfl : args = #[v0] := by cases args; simp_all
  obtain ⟨rfl, rfl⟩ := trodVars_none hV
  have k0 := h0
  have lt0 : ∀ x ∈ p0, x.block < W.heap.size := by obtain ⟨m, hm⟩ := k0; exact DataW.trod_lt m _ _ _ hm
  obtain ⟨x0, b0, e0⟩ := take_one (rTxt) (fun x => rfl) (okWide_one (.inr (.inr (.inl Try.underlying9))) (hval 0 9 v0 rfl rfl)) h0 (rweights_of hsz (j := 0) rfl rfl)
  have hFC := c_tokenParts x0
  refine (hFC.2 (MW W) W #[v0] (MW_ok W) (fun p hp => by cases hp) rfl (fun j x v hx hv => by
    have hv' : [v0][j]? = some v := by simpa using hv
    match j, hx, hv' with
    | 0, hx, hv' => cases hx; cases hv'; exact e0
    | n + 1, hx, _ => cases hx)).mono fun e W' hq => ?_
  obtain ⟨v, M', rfl, bel, _, _, _, hres⟩ := hq
  cases hres with
  | v a u hu =>
    obtain rfl := bool_inv hu
    exact ⟨_, rfl, _, _, _, [], _, [], hW', trodAll_mk1 (shut_bool Try.underlying4 _), (trodAll_cons_mk (Below.trod laidOut (by kernel_rfl) (of_decide_eq_true (by kernel_rfl)) k0 bel lt0) trodAll_mk0), rfl, bel.frame _, fun h => by cases h⟩
theorem over : Rows.tokenPartsRow.holds Try.pinned (OpenSpec.ofChange Rows.tokenPartsSpec) :=
  OpenClaim.holds_of_wide 5 Try.f5 rfl rfl rfl rfl rfl rfl rfl ⟨rfl, rfl, rfl, rfl, rfl⟩ rfl rfl rfl rfl rfl (by kernel_rfl) Try.func5 (by kernel_rfl)
    (of_decide_eq_true (by kernel_rfl)) (by unfold Func.isWrapper; first | (rw [if_pos (by decide +kernel)]; kernel_rfl) | (rw [if_neg (by decide +kernel)]; exact ⟨rfl, rfl⟩))
    (fun os started H enc _ => lifted os started H enc)
theorem proved : Rows.TokenPartsSaid := over
#print axioms proved
end Go.Proofs.Ytenigafbbdjagaa.tokenParts
namespace Go.Proofs.Ytenigafbbdjagaa
/-- The row, under a short name, for the claim. -/
theorem tokenParts_holds : Rows.TokenPartsSaid := tokenParts.proved
end Go.Proofs.Ytenigafbbdjagaa
