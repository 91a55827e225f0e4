/- The plain law of law 06: sizes, copies, all. -/
import Derived.Test.YtigkkfhpnfjmhaaYF10
import Derived.Test.YtigkkfhpnfjmhaaYF11
import Derived.Test.YtigkkfhpnfjmhaaYF14
namespace Go.Proofs.Ytigkkfhpnfjmhaa.AL
open Go
set_option maxRecDepth 20000
theorem szF_min (p : Prd) : ∀ most : Int, 1 ≤ most → szF p most = min most ((gathF tab1F p).length : Int) := by
  induction p using Prd.ind
  rename_i p ih
  intro most hm
  have key : ∀ (l : List Prd), (∀ x ∈ l, x ∈ p.parts) → ∀ n : Int, 1 ≤ n → n ≤ most → szL most n l = min most (n + ((gathL tab1F l).length : Int)) := by
    intro l
    induction l with
    | nil => intro _ n h1 h2; simp only [szL, gathL, List.length_nil]; omega
    | cons x l ihl =>
      intro hl n h1 h2
      simp only [szL, gathL, List.length_append]
      split
      · rw [ih x (hl x (by simp)) (most - n) (by omega), ihl (fun y hy => hl y (by simp [hy])) _ (by omega) (by omega)]
        omega
      · omega
  rw [szF_eq, key _ (fun x h => h) 1 (by omega) hm, gathF_eq, List.length_append]
  simp only [tab1F, List.length_cons, List.length_nil]
  omega
theorem sameF_refl (p : Prd) : sameF p p = true := by
  induction p using Prd.ind
  rename_i p ih
  have key : ∀ (l : List Prd), (∀ x ∈ l, x ∈ p.parts) → eqL sameF l l = true := by
    intro l
    induction l with
    | nil => intro _; rfl
    | cons x l ihl =>
      intro hl
      simp only [eqL, ih x (hl x (by simp)), ihl fun y hy => hl y (by simp [hy]), Bool.and_self]
  rw [sameF_eq, key _ (fun x h => h)]
  simp [baseEq, trmEqF]
end Go.Proofs.Ytigkkfhpnfjmhaa.AL
