/- The rules by which a proof steps through regions that leave their order open. -/
import Derived.Test.YtenigafbbdjagaaDoorYAR
import Derived.Test.YtenigafbbdjagaaDoorYMC
namespace Go.Proofs.YtenigafbbdjagaaDoor.AL
open Go
set_option linter.unusedVariables false
set_option linter.unusedSimpArgs false

/-- What an operation that is wanted leaves. -/
noncomputable def goRc (ops : List Oper) (σ : AS) (o : Oper) : Option Rc :=
  match o.dst with
  | some d => if d < σ.n ∧ d < 999999 then
      (match o.guard with
       | none => recE Tryd.prog σ o d
       | some _ => match gdv ops σ o with | some true => recE Tryd.prog σ o d | _ => none) else none
  | none => none
def noRc (ops : List Oper) (σ : AS) (o : Oper) : Option Rc :=
  match o.guard, o.dst with
  | some _, some d => match gdv ops σ o with | some false => if d < σ.n ∧ d < 999999 then some ⟨d, .tup [], none, false, none⟩ else none | _ => none
  | _, _ => none
def caRc (σ : AS) (o : Oper) (r : TV) : Option Rc :=
  match o.dst with | some d => if d < σ.n ∧ d < 999999 then some (callRc d r) else none | none => none
attribute [go_sem] goRc noRc caRc recE callRc rT rB rK0 rC kdrop fullS seeS tails

section
variable {ro : Option Nat} {n : Nat} {ops : List Oper} {σ s : AS} {acc : List (Nat × Rc)} {is : List Nat} {i : Nat} {o : Oper} {K : List (Nat × Rc) → Prop} {r : Rc} {e : Bool} {rv : TV}

theorem recE_d {P : Program} {d : Nat} (h : recE P σ o d = some r) : r.d = d := by
  unfold recE at h
  split at h
  · cases h; rfl
  · split at h
    · obtain ⟨_, _, h⟩ := Option.map_eq_some_iff.1 h; rw [← h]
    · obtain ⟨_, _, h⟩ := Option.map_eq_some_iff.1 h; rw [← h]
    · split at h
      · split at h
        · cases h; rfl
        · cases h
      · cases h
    · cases h

theorem dq_nil (h : K acc) : DSeq Tryd.prog ops σ [] acc K := h
theorem dq_go (h : DSeq Tryd.prog ops σ is ((i, r) :: acc) K) (ho : ops[i]? = some o) (hs : goRc ops (seeS acc σ) o = some r) : DSeq Tryd.prog ops σ (i :: is) acc K := by
  refine ⟨o, r, ho, ?_, h⟩
  unfold goRc at hs
  split at hs
  · rename_i d hd
    split at hs
    · rename_i hlt
      have key : wantA ops (seeS acc σ) o = some true ∧ recE Tryd.prog (seeS acc σ) o d = some r := by
        split at hs
        · rename_i hg; exact ⟨by simp [wantA, hg], hs⟩
        · rename_i q hg
          split at hs
          · rename_i hb; exact ⟨gdv_want (by rw [hg]; simp) hb, hs⟩
          · cases hs
      obtain ⟨hw, hs⟩ := key
      have hrd := recE_d hs
      subst hrd
      exact ⟨hd, hlt.1, hlt.2, .inr ⟨hw, .inl hs⟩⟩
    · cases hs
  · cases hs
theorem dq_no (h : DSeq Tryd.prog ops σ is ((i, r) :: acc) K) (ho : ops[i]? = some o) (hs : noRc ops (seeS acc σ) o = some r) : DSeq Tryd.prog ops σ (i :: is) acc K := by
  refine ⟨o, r, ho, ?_, h⟩
  unfold noRc at hs
  split at hs
  · rename_i q d hg hd
    split at hs
    · rename_i hb
      split at hs
      · rename_i hlt
        cases hs
        exact ⟨hd, hlt.1, hlt.2, .inl ⟨gdv_want (by rw [hg]; simp) hb, rfl⟩⟩
      · cases hs
    · cases hs
  · cases hs
theorem dq_if (h1 : e = true → DSeq Tryd.prog ops σ (i :: is) acc K) (h2 : e = false → DSeq Tryd.prog ops σ (i :: is) acc K) (ho : ops[i]? = some o) (hg : gdr ops (seeS acc σ) o = some e) : DSeq Tryd.prog ops σ (i :: is) acc K := by
  cases e
  · exact h2 rfl
  · exact h1 rfl
theorem dq_call {fid : FuncId} {all : List AV} (hfc : FC Tryd.prog fid all rv) (h : DSeq Tryd.prog ops σ is ((i, r) :: acc) K) (ho : ops[i]? = some o) (hs : callOp ops (seeS acc σ) o = some (fid, all)) (hr : caRc (seeS acc σ) o rv = some r) : DSeq Tryd.prog ops σ (i :: is) acc K := by
  refine ⟨o, r, ho, ?_, h⟩
  unfold caRc at hr
  split at hr
  · rename_i d hd
    split at hr
    · rename_i hlt
      cases hr
      have hdd : (callRc d rv).d = d := by unfold callRc; split <;> rfl
      unfold callOp at hs
      split at hs
      · rename_i f args ats hop hgd
        split at hs
        · rename_i fid' caps avs hf ha
          have hw : wantA ops (seeS acc σ) o = some true := by
            split at hgd
            · rename_i hg; simp [wantA, hg]
            · rename_i q hg
              split at hgd
              · rename_i hb; exact gdv_want (by rw [hg]; simp) hb
              · cases hgd
          refine ⟨by rw [hdd]; exact hd, by rw [hdd]; exact hlt.1, by rw [hdd]; exact hlt.2, .inr ⟨hw, .inr ⟨fid, all, rv, ?_, hfc, by rw [hdd], ?_⟩⟩⟩
          · unfold callA
            simp only [hop, hf, ha]
            exact hs
          · unfold AS.ret
            rw [hdd]
            have hl' : d < (seeS acc σ).n ∧ d < 999999 := hlt
            cases rv <;> simp only [if_pos hl'] <;> exact ⟨_, rfl⟩
        · cases hs
      · cases hs
    · cases hr
  · cases hr
theorem dq_end {τ : List Nat} {l : List Oper} {K' : AS → Prop} (h : SeqOps Tryd.prog ops l s K') (hs : fullS acc σ = s) (ht : tails ops τ = l) (hd : okD ops.toArray σ τ acc = true) : okD ops.toArray σ τ acc = true ∧ SeqOps Tryd.prog ops (tails ops τ) (fullS acc σ) K' := by
  subst hs; subst ht; exact ⟨hd, h⟩
theorem dr {Q : Exit → AS → Prop} {id : Nat} (order τ : List Nat) (h : DSeq Tryd.prog ops σ order [] fun recs => okD ops.toArray σ τ recs = true ∧ SeqOps Tryd.prog ops (tails ops τ) (fullS recs σ) (Q .normal)) : Tri Tryd.prog ro n (.region id ops.toArray true) σ Q :=
  tri_draw (by kernel_rfl) order τ h
end
end Go.Proofs.YtenigafbbdjagaaDoor.AL
