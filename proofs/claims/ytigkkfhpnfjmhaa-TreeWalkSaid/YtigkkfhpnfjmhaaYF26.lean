/- The plain law of law 06: tables. -/
import Derived.Test.YtigkkfhpnfjmhaaYF25
namespace Go.Proofs.Ytigkkfhpnfjmhaa.AL
open Go
set_option maxRecDepth 20000
def Wd (x : Int) : Prop := ∃ n : Nat, n < 18446744073709551616 ∧ x = (n : Int)
theorem bor_nat {a b : Nat} (ha : a < 18446744073709551616) (hb : b < 18446744073709551616) : bits .or .u64 (a : Int) (b : Int) = ((a ||| b : Nat) : Int) := u64_or_nat a b ha hb
theorem lor_lt {a b : Nat} (ha : a < 18446744073709551616) (hb : b < 18446744073709551616) : a ||| b < 18446744073709551616 := by
  have := Nat.or_lt_two_pow (n := 64) (x := a) (y := b) (by simpa using ha) (by simpa using hb)
  simpa using this
theorem Wd.or {a b : Int} (ha : Wd a) (hb : Wd b) : Wd (bits .or .u64 a b) := by
  obtain ⟨n, h1, rfl⟩ := ha
  obtain ⟨m, h2, rfl⟩ := hb
  rw [bor_nat h1 h2]
  exact ⟨_, lor_lt h1 h2, rfl⟩
end Go.Proofs.Ytigkkfhpnfjmhaa.AL
