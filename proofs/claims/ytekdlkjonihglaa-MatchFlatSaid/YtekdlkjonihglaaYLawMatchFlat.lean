/- For every input the law MatchFlat returns true, panics never, and leaves its arguments as they read: no condition. -/
import Derived.Test.YtekdlkjonihglaaRows
import Derived.Test.YtekdlkjonihglaaYB2
import Derived.Test.YtekdlkjonihglaaYB4
import Derived.Test.YtekdlkjonihglaaYM6
import Derived.WalkKit
import Derived.ProofKit
import Derived.OpenShut
import Derived.ShutString
import Derived.ChangeOld
import Derived.Below
import Derived.SizedLaws
namespace Go.Proofs.Ytekdlkjonihglaa.matchFlat
open Go.ChangeShapes Go.WideShapes Go.ChangeAt Go.RowKit Go.Proofs.Ytekdlkjonihglaa.AL
set_option linter.unusedVariables false
theorem own : ownKnob Try.prog.godebug = none := by kernel_rfl
theorem laidOut : laidOutB Try.prog = true := by kernel_rfl
set_option maxRecDepth 100000 in
theorem lifted (os : Os) (started : os.Started) (H : Type) (enc : TypeId × Value → H) :
    ReturnsInHanded {} Try.checked os 7 .any (Rows.matchFlatSpec.pre6 enc Try.prog Try.f7 Rows.matchFlatRow.domain false) (Rows.matchFlatSpec.post enc Try.prog Try.f7 false true false false) := by
  refine returnsInHanded_of_change_sized (C := Try.checked) own started (by kernel_rfl) Try.func7
    (ChangeSpec.witness6 (enc := enc) (C := Try.checked) false ⟨#[], #[.slice none 0 0, .int .u64 0, .slice none 0 0], []⟩ 8 (by kernel_rfl) (by kernel_rfl) (by kernel_rfl) (by kernel_rfl)) ?_
  intro W base args ds gs before hval0 hW hcnd hsz0 _
  have hsz : (DataW.weightsEach Try.prog (Try.f7.params.toList ++ Rows.matchFlatSpec.plain.varTypes Try.prog) (ds ++ gs)).all (· ≤ reachBytes) = true := hsz0
  have hval : ∀ (j : Nat) t v, Try.f7.params[j]? = some t → args[j]? = some v → Value.okWide Try.prog W .any base t v := hval0
  have hW' := hW
  obtain ⟨p, q, hA0, hV, rfl, hfz, hnd⟩ := hW
  have hA : DataW.TrodAll enc Try.prog W 0 (fun _ => true) true Try.f7.params.toList args.toList ds p := hA0
  rw [Try.params7] at hA hval hsz
  obtain ⟨v0, vs0, d0, ds0, p0, q0, hargs, rfl, rfl, h0, r0⟩ := trodAll_cons hA
  obtain ⟨v1, vs1, d1, ds1, p1, q1, rfl, rfl, rfl, h1, r1⟩ := trodAll_cons r0
  obtain ⟨v2, vs2, d2, ds2, p2, q2, rfl, rfl, rfl, h2, r2⟩ := trodAll_cons r1
  obtain ⟨rfl, rfl, rfl⟩ := trodAll_nil r2
  obtain rfl : args = #[v0, v1, v2] := by cases args; simp_all
  obtain ⟨rfl, rfl⟩ := trodVars_none hV
  have k0 := h0
  have lt0 : ∀ x ∈ p0, x.block < W.heap.size := by obtain ⟨m, hm⟩ := k0; exact DataW.trod_lt m _ _ _ hm
  obtain ⟨x0, b0, e0⟩ := take_one (rRows) (fun x => rfl) (okWide_one (.inr (.inr (.inr ⟨_, Try.underlying32⟩))) (hval 0 32 v0 rfl rfl)) h0 (rweights_of hsz (j := 0) rfl rfl)
  have k1 := h1
  have lt1 : ∀ x ∈ p1, x.block < W.heap.size := by obtain ⟨m, hm⟩ := k1; exact DataW.trod_lt m _ _ _ hm
  obtain ⟨x1, b1, e1⟩ := take_one (rU64) (fun x => rfl) (okWide_one (.inl ⟨_, Try.underlying37⟩) (hval 1 37 v1 rfl rfl)) h1 (rweights_of hsz (j := 1) rfl rfl)
  have k2 := h2
  have lt2 : ∀ x ∈ p2, x.block < W.heap.size := by obtain ⟨m, hm⟩ := k2; exact DataW.trod_lt m _ _ _ hm
  obtain ⟨x2, b2, e2⟩ := take_one (rInts) (fun x => rfl) (okWide_one (.inr (.inr (.inr ⟨_, Try.underlying38⟩))) (hval 2 38 v2 rfl rfl)) h2 (rweights_of hsz (j := 2) rfl rfl)
  have hFC := (show FC Try.prog 7 [rowsE x0, .int .u64 x1, intsI x2] (.v (.bool true)) from by obtain ⟨m, hm, rfl⟩ := u64_nat b1; exact c_matchFlat x0 m x2 hm)
  refine (hFC.2 (MW W) W #[v0, v1, v2] (MW_ok W) rfl (fun j x v hx hv => by
    have hv' : [v0, v1, v2][j]? = some v := by simpa using hv
    match j, hx, hv' with
    | 0, hx, hv' => cases hx; cases hv'; exact e0
    | 1, hx, hv' => cases hx; cases hv'; exact e1
    | 2, hx, hv' => cases hx; cases hv'; exact e2
    | n + 3, hx, _ => cases hx)).mono fun e W' hq => ?_
  obtain ⟨v, M', rfl, bel, _, _, _, hres⟩ := hq
  cases hres with
  | v a u hu =>
    obtain rfl := bool_inv hu
    exact ⟨_, rfl, _, _, _, [], _, [], hW', trodAll_mk1 (shut_bool Try.underlying4 _), (trodAll_cons_mk (Below.trod laidOut (by kernel_rfl) (of_decide_eq_true (by kernel_rfl)) k0 bel lt0) (trodAll_cons_mk (Below.trod laidOut (by kernel_rfl) (of_decide_eq_true (by kernel_rfl)) k1 bel lt1) (trodAll_cons_mk (Below.trod laidOut (by kernel_rfl) (of_decide_eq_true (by kernel_rfl)) k2 bel lt2) trodAll_mk0))), rfl, bel.frame _, fun h => by cases h⟩
theorem over : Rows.matchFlatRow.holds Try.pinned (OpenSpec.ofChange Rows.matchFlatSpec) :=
  OpenClaim.holds_of_wide 7 Try.f7 rfl rfl rfl rfl rfl rfl rfl ⟨rfl, rfl, rfl, rfl, rfl⟩ rfl rfl rfl rfl rfl (by kernel_rfl) Try.func7 (by kernel_rfl)
    (of_decide_eq_true (by kernel_rfl)) (by unfold Func.isWrapper; first | (rw [if_pos (by decide +kernel)]; kernel_rfl) | (rw [if_neg (by decide +kernel)]; exact ⟨rfl, rfl⟩))
    (fun os started H enc _ => lifted os started H enc)
theorem proved : Rows.MatchFlatSaid := over
#print axioms proved
end Go.Proofs.Ytekdlkjonihglaa.matchFlat
namespace Go.Proofs.Ytekdlkjonihglaa
/-- The row, under a short name, for the claim. -/
theorem matchFlat_holds : Rows.MatchFlatSaid := matchFlat.proved
end Go.Proofs.Ytekdlkjonihglaa
