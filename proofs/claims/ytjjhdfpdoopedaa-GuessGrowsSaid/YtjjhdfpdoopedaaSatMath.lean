/- Plain arithmetic of words of 64 binary digits: products by halves, sums, products and shares that stop at the greatest word. -/
import Derived.Laws.BitsAllLaws
import Derived.Laws.BitsLemmas
import Derived.Laws.Bits64
namespace Go.Proofs.Ytjjhdfpdoopedaa.SatMath
open Go
set_option linter.unusedVariables false
set_option linter.unusedSimpArgs false

theorem u64 (n : Int) : IntKind.u64.wrap n = n % 18446744073709551616 := IntKind.wrap_u64 n

theorem u64_id {n : Int} (h0 : 0 ≤ n) (h1 : n < 18446744073709551616) : IntKind.u64.wrap n = n := by rw [u64]; omega

theorem and_low {x : Int} (h0 : 0 ≤ x) (h1 : x < 18446744073709551616) : Go.bits .and .u64 x 4294967295 = x % 4294967296 :=
  bits_mask .u64 64 (by decide) (fun n a b => u64_id a b) 32 (by decide) x h0 h1

theorem or_high {x y : Int} (hx0 : 0 ≤ x) (hx1 : x < 18446744073709551616) (hx : x % 281474976710656 = 0) (hy0 : 0 ≤ y) (hy1 : y < 281474976710656) :
    Go.bits .or .u64 x y = x + y := by
  exact bits_join .u64 64 (by decide) (fun n a b => u64_id a b) 48 x y hx0 hx hx1 hy0 hy1 (by omega)

/-- The most that there is. -/
def cap (n : Int) : Int := if n ≤ 18446744073709551615 then n else 18446744073709551615

/-- The upper half of a product, by halves. -/
theorem wide_hi {a b : Int} (ha0 : 0 ≤ a) (ha1 : a < 18446744073709551616) (hb0 : 0 ≤ b) (hb1 : b < 18446744073709551616) :
    (IntKind.u64.wrap ((IntKind.u64.wrap ((IntKind.u64.wrap ((a / 4294967296) * (b / 4294967296))) + ((IntKind.u64.wrap ((IntKind.u64.wrap ((a / 4294967296) * (Go.bits .and .u64 b 4294967295))) + ((IntKind.u64.wrap ((Go.bits .and .u64 a 4294967295) * (Go.bits .and .u64 b 4294967295))) / 4294967296))) / 4294967296))) + ((IntKind.u64.wrap ((Go.bits .and .u64 (IntKind.u64.wrap ((IntKind.u64.wrap ((a / 4294967296) * (Go.bits .and .u64 b 4294967295))) + ((IntKind.u64.wrap ((Go.bits .and .u64 a 4294967295) * (Go.bits .and .u64 b 4294967295))) / 4294967296))) 4294967295) + (IntKind.u64.wrap ((Go.bits .and .u64 a 4294967295) * (b / 4294967296))))) / 4294967296))) = a * b / 18446744073709551616 := by
  rw [and_low ha0 ha1, and_low hb0 hb1]
  have hA1 : 0 ≤ a / 4294967296 ∧ a / 4294967296 ≤ 4294967295 := by omega
  have hB1 : 0 ≤ b / 4294967296 ∧ b / 4294967296 ≤ 4294967295 := by omega
  have hA0 : 0 ≤ a % 4294967296 ∧ a % 4294967296 ≤ 4294967295 := by omega
  have hB0 : 0 ≤ b % 4294967296 ∧ b % 4294967296 ≤ 4294967295 := by omega
  have eA : a = 4294967296 * (a / 4294967296) + a % 4294967296 := by omega
  have eB : b = 4294967296 * (b / 4294967296) + b % 4294967296 := by omega
  generalize a / 4294967296 = p at *
  generalize b / 4294967296 = q at *
  generalize a % 4294967296 = s at *
  generalize b % 4294967296 = t at *
  have e : a * b = 18446744073709551616 * (p * q) + 4294967296 * (p * t) + 4294967296 * (s * q) + s * t := by
    rw [eA, eB, Int.add_mul, Int.mul_add, Int.mul_add]
    have e1 : 4294967296 * p * (4294967296 * q) = 18446744073709551616 * (p * q) := by
      rw [show (18446744073709551616 : Int) = 4294967296 * 4294967296 from rfl, Int.mul_assoc, Int.mul_left_comm p, ← Int.mul_assoc, ]
    have e2 : 4294967296 * p * t = 4294967296 * (p * t) := Int.mul_assoc _ _ _
    have e3 : s * (4294967296 * q) = 4294967296 * (s * q) := Int.mul_left_comm _ _ _
    omega
  have b1 : 0 ≤ p * q ∧ p * q ≤ 18446744065119617025 := ⟨Int.mul_nonneg hA1.1 hB1.1, Int.mul_le_mul hA1.2 hB1.2 hB1.1 (by omega)⟩
  have b2 : 0 ≤ p * t ∧ p * t ≤ 18446744065119617025 := ⟨Int.mul_nonneg hA1.1 hB0.1, Int.mul_le_mul hA1.2 hB0.2 hB0.1 (by omega)⟩
  have b3 : 0 ≤ s * q ∧ s * q ≤ 18446744065119617025 := ⟨Int.mul_nonneg hA0.1 hB1.1, Int.mul_le_mul hA0.2 hB1.2 hB1.1 (by omega)⟩
  have b4 : 0 ≤ s * t ∧ s * t ≤ 18446744065119617025 := ⟨Int.mul_nonneg hA0.1 hB0.1, Int.mul_le_mul hA0.2 hB0.2 hB0.1 (by omega)⟩
  have b5 : a * b ≤ 18446744073709551615 * 18446744073709551615 := Int.mul_le_mul (by omega) (by omega) hb0 (by omega)
  rw [e] at b5 ⊢
  clear e eA eB
  generalize p * q = x at *
  generalize p * t = y at *
  generalize s * q = z at *
  generalize s * t = u at *
  clear hA1 hB1 hA0 hB0
  rw [u64_id (n := x) b1.1 (by omega), u64_id (n := y) b2.1 (by omega), u64_id (n := u) b4.1 (by omega), u64_id (n := z) b3.1 (by omega)]
  have c1 : 0 ≤ y + u / 4294967296 ∧ y + u / 4294967296 < 18446744073709551616 := by omega
  rw [u64_id c1.1 c1.2, and_low c1.1 c1.2]
  have c2 : 0 ≤ (y + u / 4294967296) % 4294967296 + z ∧ (y + u / 4294967296) % 4294967296 + z < 18446744073709551616 := by omega
  rw [u64_id c2.1 c2.2]
  have c3 : 0 ≤ x + (y + u / 4294967296) / 4294967296 ∧ x + (y + u / 4294967296) / 4294967296 < 18446744073709551616 := by omega
  rw [u64_id c3.1 c3.2]
  have c4 : 18446744073709551616 * x + 4294967296 * y + 4294967296 * z + u = 18446744073709551616 * (x + (y + u / 4294967296) / 4294967296 + ((y + u / 4294967296) % 4294967296 + z) / 4294967296) + (4294967296 * (((y + u / 4294967296) % 4294967296 + z) % 4294967296) + u % 4294967296) := by omega
  have c5 : x + (y + u / 4294967296) / 4294967296 + ((y + u / 4294967296) % 4294967296 + z) / 4294967296 = (18446744073709551616 * x + 4294967296 * y + 4294967296 * z + u) / 18446744073709551616 := by omega
  rw [← c5]
  exact u64_id (by omega) (by omega)

theorem wide_lo {a b : Int} : IntKind.u64.wrap (a * b) = a * b % 18446744073709551616 := u64 _

theorem mul_bound {a b : Int} (ha0 : 0 ≤ a) (ha1 : a < 18446744073709551616) (hb0 : 0 ≤ b) (hb1 : b < 18446744073709551616) :
    0 ≤ a * b ∧ a * b ≤ 18446744073709551615 * 18446744073709551615 :=
  ⟨Int.mul_nonneg ha0 hb0, Int.mul_le_mul (by omega) (by omega) hb0 (by omega)⟩

/-- What a share is, out of the two halves of the product. -/
theorem share_parts {n : Int} (h0 : 0 ≤ n) (h1 : n ≤ 18446744073709551615 * 18446744073709551615) (h : ¬ n / 18446744073709551616 ≥ 65536) :
    Go.bits .or .u64 (IntKind.u64.wrap (n / 18446744073709551616 * 281474976710656)) (n % 18446744073709551616 / 65536) = n / 65536 := by
  rw [u64_id (n := n / 18446744073709551616 * 281474976710656) (by omega) (by omega), or_high (by omega) (by omega) (by omega) (by omega) (by omega)]
  omega

/-- A product that fits, by division. -/
theorem mul_by_div {a b : Int} (ha0 : 0 < a) (hb0 : 0 ≤ b) : 18446744073709551615 / a < b ↔ 18446744073709551615 < a * b := by
  constructor
  · intro h
    have := Int.lt_mul_of_ediv_lt ha0 h
    rw [Int.mul_comm]; exact this
  · intro h
    exact Int.ediv_lt_of_lt_mul ha0 (by rw [Int.mul_comm]; exact h)
end Go.Proofs.Ytjjhdfpdoopedaa.SatMath
