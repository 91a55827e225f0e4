/- The rules by which a proof steps through code. -/
import Derived.Test.YtenigafbbdjagaaDoorYAT
import Derived.IntWalk
namespace Go.Proofs.YtenigafbbdjagaaDoor.AL
open Go
set_option linter.unusedVariables false
set_option linter.unusedSimpArgs false

theorem nat_beq (a b : Nat) : (a == b) = decide (a = b) := rfl
theorem ixA_map {α : Type} {f : α → AV} {l : List α} {k : Nat} (h : k < l.length) : ixA (l.map f) (k : Int) = some (f l[k]) := by
  unfold ixA
  rw [if_pos (by omega)]
  simp [h]
theorem wrap_succ {k : Nat} {α : Type} {l : List α} (h : k < l.length) (hm : l.length ≤ 9223372036854775807) : IntKind.i64.wrap ((k : Int) + 1) = ((k + 1 : Nat) : Int) := by
  rw [IntWalk.i64_in _ (by omega)]; rfl

/-- What an operation's guard says. -/
def gdv (ops : List Oper) (σ : AS) (o : Oper) : Option Bool :=
  match o.guard with
  | none => none
  | some (j, want) => match (ops[j]?).bind (·.dst) with | some d => (match get d σ.t with | some (.v (.bool b)) => some (bif want then b else !b) | _ => none) | none => none

/-- The same, as it is. -/
def gdr (ops : List Oper) (σ : AS) (o : Oper) : Option Bool :=
  match o.guard with
  | none => none
  | some (j, _) => match (ops[j]?).bind (·.dst) with | some d => (match get d σ.t with | some (.v (.bool b)) => some b | _ => none) | none => none

/-- The state behind an operation that is wanted. -/
noncomputable def goOp (ops : List Oper) (σ : AS) (o : Oper) : Option AS :=
  match o.guard with
  | none => stepOp Tryd.prog σ o
  | some _ => match gdv ops σ o with | some true => stepOp Tryd.prog σ o | _ => none
/-- The state behind an operation that is not wanted. -/
def noOp (ops : List Oper) (σ : AS) (o : Oper) : Option AS :=
  match o.guard, o.dst with
  | some _, some d => match gdv ops σ o with | some false => if d < σ.n then some (σ.put d (.tup [])) else none | _ => none
  | _, _ => none
/-- Whom an operation calls, and with what. -/
noncomputable def callOp (ops : List Oper) (σ : AS) (o : Oper) : Option (FuncId × List AV) :=
  match o.op, (match o.guard with | none => true | some _ => match gdv ops σ o with | some true => true | _ => false) with
  | .call { callee := .value f, args, argTypes }, true =>
    match fnOf (ev σ f), datArgs Tryd.prog σ args.toList argTypes.toList with
    | some (fid, caps), some avs => some (fid, avs ++ caps)
    | _, _ => none
  | _, _ => none

attribute [go_sem] tys List.getElem?_toArray List.size_toArray List.length_map LeT LeK goOp noOp callOp stepOp evalP stepE ev evT cv cvL nilOf get AS.put AS.newBox AS.newTok TV.dat TV.dat.datL binI shI binS ATy.size ATy.isAgg ATy.ok killT killB killK killL pushK memK TV.kill setB tcells AV.cells tvz bsA apA datsOf fillA pieces elemsA srcA fnOf datArgs AS.ret frzT frzB frzL TV.frz AS.frz optDat boundA sliceA gdv gdr res1 Option.bind List.map_cons List.map_nil List.getElem?_cons_zero List.getElem?_cons_succ List.drop_zero List.drop_succ_cons List.take_zero List.take_succ_cons List.length_cons List.length_nil List.replicate List.set_cons_zero List.set_cons_succ List.cons_append List.nil_append List.append_nil List.all_cons List.all_nil Option.map_some Option.map_none Option.getD_some Option.getD_none Option.some.injEq beq_self_eq_true cond_true cond_false Bool.not_true Bool.not_false beq_true beq_false and_true true_and and_self and_false false_and ne_eq not_true_eq_false not_false_eq_true true_or or_true or_false false_or or_self Nat.le_refl Prod.mk.injEq

section
variable {ro : Option Nat} {n : Nat} {ops rest : List Oper} {σ σ' : AS} {o : Oper} {K : AS → Prop} {Q : Exit → AS → Prop} {d : Nat} {x y : Code} {c : Operand} {e : Bool} {r r' : TV}

theorem gdv_want {b : Bool} (hg : o.guard ≠ none) (h : gdv ops σ o = some b) : wantA ops σ o = some b := by
  unfold gdv at h
  unfold wantA
  split at h
  · rename_i hg'; exact absurd hg' hg
  · rename_i j want hgd
    simp only [hgd]
    split at h
    · rename_i d hd
      split at h
      · rename_i b' hb
        simp only [hd, hb]
        cases h
        cases want <;> cases b' <;> rfl
      · cases h
    · cases h

theorem sq_nil (h : K σ) : SeqOps Tryd.prog ops [] σ K := h

theorem sq_go (h : SeqOps Tryd.prog ops rest σ' K) (hs : goOp ops σ o = some σ') : SeqOps Tryd.prog ops (o :: rest) σ K := by
  have key : wantA ops σ o = some true ∧ stepOp Tryd.prog σ o = some σ' := by
    unfold goOp at hs
    split at hs
    · rename_i hg; exact ⟨by simp [wantA, hg], hs⟩
    · rename_i q hg
      split at hs
      · rename_i hb; exact ⟨gdv_want (by rw [hg]; simp) hb, hs⟩
      · cases hs
  obtain ⟨hw, hs⟩ := key
  have hop : OptK (stepOp Tryd.prog σ o) (fun σ' => SeqOps Tryd.prog ops rest σ' K) := ⟨σ', hs, h⟩
  refine ⟨true, hw, fun _ => ?_, fun e => (by cases e)⟩
  refine .inl ?_
  unfold StepS
  split
  · rename_i f args ats hc
    exfalso
    unfold stepOp at hs
    split at hs
    · split at hs
      · simp [evalP, stepE, hc] at hs
      · cases hs
    · simp [hc] at hs
  · exact hop

/-- An operation that is not wanted. -/
theorem sq_no (h : SeqOps Tryd.prog ops rest σ' K) (hs : noOp ops σ o = some σ') : SeqOps Tryd.prog ops (o :: rest) σ K := by
  unfold noOp at hs
  split at hs
  · rename_i q d hg hd
    split at hs
    · rename_i hb
      split at hs
      · rename_i hn
        cases hs
        refine ⟨false, gdv_want (by rw [hg]; simp) hb, fun e => (by cases e), fun _ => ?_⟩
        unfold AS.skip
        rw [hd]
        exact ⟨hn, h⟩
      · cases hs
    · cases hs
  · cases hs

/-- By what an operation's guard says. -/
theorem sq_if (h1 : e = true → SeqOps Tryd.prog ops (o :: rest) σ K) (h2 : e = false → SeqOps Tryd.prog ops (o :: rest) σ K)
    (hg : gdr ops σ o = some e) : SeqOps Tryd.prog ops (o :: rest) σ K := by
  cases e
  · exact h2 rfl
  · exact h1 rfl

/-- A call. -/
theorem sq_call {fid : FuncId} {all : List AV} (hfc : FC Tryd.prog fid all r) (h : SeqOps Tryd.prog ops rest σ' K) (hs : callOp ops σ o = some (fid, all)) (hr : σ.ret o.dst r = some σ') : SeqOps Tryd.prog ops (o :: rest) σ K := by
  unfold callOp at hs
  split at hs
  · rename_i f args ats hop hgd
    split at hs
    · rename_i fid' caps avs hf ha
      simp only [Option.some.injEq, Prod.mk.injEq] at hs
      obtain ⟨rfl, rfl⟩ := hs
      have hw : wantA ops σ o = some true := by
        split at hgd
        · rename_i hg; simp [wantA, hg]
        · rename_i q hg
          split at hgd
          · rename_i hb; exact gdv_want (by rw [hg]; simp) hb
          · cases hgd
      refine ⟨true, hw, fun _ => ?_, fun e => (by cases e)⟩
      refine .inl ?_
      simp only [StepS, hop, hf, ha]
      exact ⟨r, hfc, σ', hr, h⟩
    · cases hs
  · cases hs

theorem tri_ci (h1 : e = true → Tri Tryd.prog ro n x σ Q) (h2 : e = false → Tri Tryd.prog ro n y σ Q) (hc : ev σ c = .v (.bool e)) : Tri Tryd.prog ro n (.cond c x y) σ Q :=
  tri_cond hc h1 h2

theorem thenQ_n {s : AS} (h : K s) : thenQ K Q .normal s := h
theorem thenQ_r {s : AS} (h : Q .ret s) : thenQ K Q .ret s := h
theorem thenQ_e {s : AS} {id : Nat} (h : Q (.exit id) s) : thenQ K Q (.exit id) s := h
theorem blockQ_n {s : AS} {id : Nat} (h : Q .normal s) : blockQ id Q .normal s := h
theorem blockQ_r {s : AS} {id : Nat} (h : Q .ret s) : blockQ id Q .ret s := h
theorem blockQ_e {s : AS} {id : Nat} (h : Q .normal s) : blockQ id Q (.exit id) s := by simp [blockQ, h]
theorem blockQ_o {s : AS} {id id' : Nat} (h : Q (.exit id') s) (hne : (id' == id) = false) : blockQ id Q (.exit id') s := by
  simp only [beq_eq_false_iff_ne] at hne
  simp [blockQ, hne, h]

/-- What a function hands back, in one. -/
noncomputable def outV (s : AS) (rv : ResultVar) : Option AV := (res1 Tryd.prog s rv).bind TV.dat
noncomputable def outA (s : AS) (rv : ResultVar) : Option (Nat × List AV) :=
  match res1 Tryd.prog s rv with
  | some (.ap sz xs k) => if k = 999999 ∨ memK k s.k = true then some (sz, xs) else none
  | _ => none
attribute [go_sem] outV outA
theorem post_r {s : AS} {rv : ResultVar} {u v : AV} {ex : Exit} (h : u = v) (h1 : outV s rv = some u) (he : ex = .ret ∨ ex = .normal) : Post Tryd.prog [rv] (.v v) ex s := by
  subst h
  unfold outV at h1
  cases hr : res1 Tryd.prog s rv with
  | none => simp [hr] at h1
  | some r' => simp only [hr, Option.bind_some] at h1; exact ⟨he.symm, r', hr, h1⟩
theorem post_a {s : AS} {rv : ResultVar} {sz k' : Nat} {us vs : List AV} {ex : Exit} (h : us = vs) (h1 : outA s rv = some (sz, us)) (he : ex = .ret ∨ ex = .normal) : Post Tryd.prog [rv] (.ap sz vs k') ex s := by
  subst h
  unfold outA at h1
  split at h1
  · rename_i sz' xs k hr
    split at h1
    · rename_i hk; cases h1; exact ⟨he.symm, _, hr, rfl, rfl, hk⟩
    · cases h1
  · cases h1
end
end Go.Proofs.YtenigafbbdjagaaDoor.AL
