/- Contracts: predicates. -/
import Derived.Test.YtigkkfhpnfjmhaaYF6
namespace Go.Proofs.Ytigkkfhpnfjmhaa.AL
open Go
set_option linter.unusedVariables false
set_option linter.unusedSimpArgs false
set_option maxRecDepth 4000
inductive Prd where
  | mk (kind truth op : Int) (a b : Trm) (parts : List Prd)
def Prd.kind : Prd → Int | .mk k _ _ _ _ _ => k
def Prd.truth : Prd → Int | .mk _ k _ _ _ _ => k
def Prd.op : Prd → Int | .mk _ _ k _ _ _ => k
def Prd.a : Prd → Trm | .mk _ _ _ k _ _ => k
def Prd.b : Prd → Trm | .mk _ _ _ _ k _ => k
def Prd.parts : Prd → List Prd | .mk _ _ _ _ _ k => k
mutual
def Prd.e : Prd → AV
  | .mk k t o a b ps => .agg [.int .i64 k, .int .i64 t, .int .i64 o, .int .i64 a.kind, .int .i64 a.table, .int .i64 a.col, .bool a.v.null, .int .i64 a.v.n, .int .i64 b.kind, .int .i64 b.table, .int .i64 b.col, .bool b.v.null, .int .i64 b.v.n, .sl 14 (Prd.eL ps)]
def Prd.eL : List Prd → List AV
  | [] => []
  | p :: l => p.e :: Prd.eL l
end
theorem Prd.eL_map : ∀ l : List Prd, Prd.eL l = l.map Prd.e
  | [] => rfl
  | p :: l => by simp only [Prd.eL, List.map_cons, Prd.eL_map l]
theorem Prd.e_eq (p : Prd) : p.e = .agg [.int .i64 p.kind, .int .i64 p.truth, .int .i64 p.op, .int .i64 p.a.kind, .int .i64 p.a.table, .int .i64 p.a.col, .bool p.a.v.null, .int .i64 p.a.v.n, .int .i64 p.b.kind, .int .i64 p.b.table, .int .i64 p.b.col, .bool p.b.v.null, .int .i64 p.b.v.n, .sl 14 (p.parts.map Prd.e)] := by
  cases p; simp only [Prd.e, Prd.eL_map]; rfl
attribute [go_sem] Prd.e_eq
abbrev prdsE (l : List Prd) : AV := .sl 14 (l.map Prd.e)
theorem Prd.part_lt {p x : Prd} (h : x ∈ p.parts) : SizeOf.sizeOf x < SizeOf.sizeOf p := by
  cases p with
  | mk k t o a b ps => have := List.sizeOf_lt_of_mem (show x ∈ ps from h); simp only [Prd.mk.sizeOf_spec]; omega
theorem Prd.ind {C : Prd → Prop} (h : ∀ p : Prd, (∀ x ∈ p.parts, C x) → C p) (p : Prd) : C p :=
  h p fun x hx => Prd.ind h x
termination_by SizeOf.sizeOf p
decreasing_by exact Prd.part_lt hx
mutual
def gathF {α : Type} (g : Prd → List α) : Prd → List α
  | .mk k t o a b ps => g (.mk k t o a b ps) ++ gathL g ps
def gathL {α : Type} (g : Prd → List α) : List Prd → List α
  | [] => []
  | p :: l => gathF g p ++ gathL g l
end
theorem gathF_eq {α : Type} (g : Prd → List α) (p : Prd) : gathF g p = g p ++ gathL g p.parts := by cases p; rw [gathF]; rfl
def Col.e (c : Int × Int) : AV := .agg [.int .i64 c.1, .int .i64 c.2]
attribute [go_sem] Col.e

end Go.Proofs.Ytigkkfhpnfjmhaa.AL
