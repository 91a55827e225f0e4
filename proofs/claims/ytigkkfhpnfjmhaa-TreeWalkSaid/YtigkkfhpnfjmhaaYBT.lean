/- Plain facts on words as sets, digit by digit; the set of a list is the same by both. -/
import Derived.Laws.BitsAllLaws
import Derived.Laws.BitsLemmas
import Derived.Laws.Bits64
import Derived.Test.YtigkkfhpnfjmhaaYF4
namespace Go.Proofs.Ytigkkfhpnfjmhaa.AL
open Go
set_option linter.unusedVariables false
set_option linter.unusedSimpArgs false
set_option maxRecDepth 4000
/-- The word whose digits below n are those of P. -/
def word (P : Nat → Bool) : Nat → Nat
  | 0 => 0
  | n + 1 => word P n + if P n then 2 ^ n else 0
/-- A set's member, of an int. -/
def hasI (s : Nat) (i : Int) : Bool := decide (0 ≤ i) && decide (i < 64) && s.testBit i.toNat
/-- The members of a list. -/
def memI (l : List Int) (i : Nat) : Bool := decide ((i : Int) ∈ l)
def ofs (l : List Int) : Nat := word (memI l) 64
/-- One member. -/
def oneN (i : Int) : Nat := if 0 ≤ i ∧ i < 64 then 2 ^ i.toNat else 0
/-! ### words as ints -/
end Go.Proofs.Ytigkkfhpnfjmhaa.AL
