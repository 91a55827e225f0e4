/- Contracts: tables and columns of predicates. -/
import Derived.Test.YtigkkfhpnfjmhaaYF7
namespace Go.Proofs.Ytigkkfhpnfjmhaa.AL
open Go
set_option linter.unusedVariables false
set_option linter.unusedSimpArgs false
set_option maxRecDepth 4000
def trmTabF (t : Trm) : Int := if t.kind = 1 then setF [t.table] else 0
def tab1F (p : Prd) : List Int := [bits .or .u64 (trmTabF p.a) (trmTabF p.b)]
def colT (t : Trm) : List (Int × Int) := if t.kind = 1 then [(t.table, t.col)] else []
def col1F (p : Prd) : List (Int × Int) := colT p.a ++ colT p.b
def tabsF (p : Prd) : Int := (gathF tab1F p).foldl (fun a x => bits .or .u64 a x) 0
def refTrmTabF (t : Trm) : Int := if t.kind = 1 then refSetF [t.table] else 0
mutual
def refTabsF : Prd → Int
  | .mk k t o a b ps => refTabsL (bits .or .u64 (refTrmTabF a) (refTrmTabF b)) ps
def refTabsL : Int → List Prd → Int
  | s, [] => s
  | s, p :: l => refTabsL (bits .or .u64 s (refTabsF p)) l
end
/-- A predicate has no more parts than a number counts. -/
theorem tri_partsB {P : Program} {ro : Option Nat} {n : Nat} {σ : AS} {Q : Exit → AS → Prop} {c : Code} (t : Nat) (p : Prd)
    (hb : get t σ.b = some [.v (.int .i64 p.kind), .v (.int .i64 p.truth), .v (.int .i64 p.op), .v (.int .i64 p.a.kind), .v (.int .i64 p.a.table), .v (.int .i64 p.a.col), .v (.bool p.a.v.null), .v (.int .i64 p.a.v.n), .v (.int .i64 p.b.kind), .v (.int .i64 p.b.table), .v (.int .i64 p.b.col), .v (.bool p.b.v.null), .v (.int .i64 p.b.v.n), .v (prdsE p.parts)])
    (h : p.parts.length ≤ 9223372036854775807 → Tri P ro n c σ Q) : Tri P ro n c σ Q := by
  intro E hE a w hr
  have hr' := hr
  obtain ⟨g, h1, h2, h3⟩ := hr
  refine h ?_ E hE a w hr'
  obtain ⟨b, vs, e, q1, q2, q3, q4, q5⟩ := h1.box t _ hb
  simp only [List.length_cons, List.length_nil] at q3
  obtain ⟨v, hv⟩ : ∃ v, vs[13]? = some v := ⟨vs[13]'(by omega), by simp⟩
  have hR := (q4 13 _ v rfl hv).1
  have := len_of (v_inv hR)
  simpa using this

end Go.Proofs.Ytigkkfhpnfjmhaa.AL
