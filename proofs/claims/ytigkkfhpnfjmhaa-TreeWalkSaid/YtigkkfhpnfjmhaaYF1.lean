/- Contracts: values, logic, sets. -/
import Derived.Test.YtigkkfhpnfjmhaaYAS
namespace Go.Proofs.Ytigkkfhpnfjmhaa.AL
open Go
set_option linter.unusedVariables false
set_option linter.unusedSimpArgs false
set_option maxRecDepth 4000

structure Val where
  null : Bool
  n : Int
def Val.e (v : Val) : AV := .agg [.bool v.null, .int .i64 v.n]
attribute [go_sem] Val.e
abbrev AV.i (n : Int) : AV := .int .i64 n

def sideF (a b : Int) : Int := if a < b then 0 else if a = b then 1 else 2
def truthF (b : Bool) : Int := bif b then 2 else 0
def ofF (t : Int) : Int := if 0 ≤ t ∧ t ≤ 2 then t else 1
def refCmpF (op : Int) (a b : Val) : Int :=
  if a.null = true ∨ b.null = true then 1 else
  if op = 1 then truthF (decide (a.n = b.n)) else if op = 2 then truthF (decide (a.n ≠ b.n)) else if op = 3 then truthF (decide (a.n < b.n)) else
  if op = 4 then truthF (decide (a.n ≤ b.n)) else if op = 5 then truthF (decide (a.n > b.n)) else if op = 6 then truthF (decide (a.n ≥ b.n)) else 1

theorem wi {n : Int} (h : -9223372036854775808 ≤ n ∧ n ≤ 9223372036854775807) : IntKind.i64.wrap n = n := IntWalk.i64_in _ (by omega)
end Go.Proofs.Ytigkkfhpnfjmhaa.AL
