/- Few and short tuples and predicates. -/
import Derived.Test.YtekdlkjonihglaaYN4
namespace Go.Proofs.Ytekdlkjonihglaa.AL
open Go
set_option linter.unusedVariables false
set_option maxRecDepth 4000
def LightP (conj : List Prd) (l r : List Tup) : Prop :=
  conj.length ≤ 10 ∧ r.length ≤ 40 ∧ l.length ≤ 40 ∧ (∀ k (h : k < conj.length), szF conj[k] 101 ≤ 100) ∧
    ∀ i (h : i < (r ++ l).length), (r ++ l)[i].length ≤ 66 ∧ ∀ j (h' : j < (r ++ l)[i].length), (r ++ l)[i][j].length ≤ 10
open Classical in
noncomputable def lightF (conj : List Prd) (l r : List Tup) : Bool := decide (LightP conj l r)
theorem lightF_pos {conj : List Prd} {l r : List Tup} (h : LightP conj l r) : lightF conj l r = true := by unfold lightF; simpa using h
theorem lightF_neg {conj : List Prd} {l r : List Tup} (h : ¬ LightP conj l r) : lightF conj l r = false := by unfold lightF; simpa using h
theorem lightF_iff {conj : List Prd} {l r : List Tup} (h : lightF conj l r = true) : LightP conj l r := by unfold lightF at h; simpa using h
theorem LightP.c {conj : List Prd} {l r : List Tup} (h : LightP conj l r) : LtC conj := by
  refine ⟨by have := h.1; omega, fun x hx => ?_⟩
  obtain ⟨k, hk, rfl⟩ := List.getElem_of_mem hx
  have h1 := h.2.2.2.1 k hk
  rw [szF_min _ 101 (by omega)] at h1
  omega
theorem LightP.t {conj : List Prd} {l r : List Tup} (h : LightP conj l r) {x : Tup} (hx : x ∈ r ++ l) : LtT x := by
  obtain ⟨k, hk, rfl⟩ := List.getElem_of_mem hx
  obtain ⟨h1, h2⟩ := h.2.2.2.2 k hk
  refine ⟨by omega, fun y hy => ?_⟩
  obtain ⟨j, hj, rfl⟩ := List.getElem_of_mem hy
  have := h2 j hj
  omega
theorem LightP.l {conj : List Prd} {l r : List Tup} (h : LightP conj l r) : LtL l := ⟨by have := h.2.2.1; omega, fun x hx => h.t (List.mem_append_right _ hx)⟩
theorem LightP.r {conj : List Prd} {l r : List Tup} (h : LightP conj l r) : LtL r := ⟨by have := h.2.1; omega, fun x hx => h.t (List.mem_append_left _ hx)⟩
end Go.Proofs.Ytekdlkjonihglaa.AL
