/- Plain facts on counting the bits of a word. -/
import Derived.Test.YtceleegbbclajaaDoorYP1
namespace Go.Proofs.YtceleegbbclajaaDoor.AL
open Go
set_option linter.unusedVariables false
theorem and256 (x y a c : Nat) (ha : a < 256) (hc : c < 256) : (256 * x + a) &&& (256 * y + c) = 256 * (x &&& y) + (a &&& c) := by
  apply Nat.eq_of_testBit_eq
  intro j
  have hac : a &&& c < 2 ^ 8 := Nat.lt_of_le_of_lt Nat.and_le_left ha
  rw [Nat.testBit_and, show (256 : Nat) = 2 ^ 8 by rfl, Nat.testBit_two_pow_mul_add _ ha, Nat.testBit_two_pow_mul_add _ hc, Nat.testBit_two_pow_mul_add _ hac]
  split <;> rw [Nat.testBit_and]
def mskB (c : Nat) : Nat → Nat
  | 0 => 0
  | k + 1 => 256 * mskB c k + c
def pc1 (k x : Nat) : Nat := ((x / 2) &&& mskB 85 k) + (x &&& mskB 85 k)
def pc2 (k x : Nat) : Nat := ((x / 4) &&& mskB 51 k) + (x &&& mskB 51 k)
def pc3 (k x : Nat) : Nat := (x / 16 + x) &&& mskB 15 k
def pg1 (l : Nat) : Nat := ((l / 2) &&& 85) + (l &&& 85)
def pg2 (l : Nat) : Nat := ((l / 4) &&& 51) + (l &&& 51)
theorem pd1 : ∀ l : Fin 256, ∀ r : Fin 2, (128 * r.1 + l.1 / 2) &&& 85 = (l.1 / 2) &&& 85 := by decide +kernel
theorem pd2 : ∀ l : Fin 256, ∀ r : Fin 4, (64 * r.1 + l.1 / 4) &&& 51 = (l.1 / 4) &&& 51 := by decide +kernel
theorem pd3 : ∀ l : Fin 256, pg1 l.1 < 256 ∧ pg2 l.1 < 256 ∧ pg2 (pg1 l.1) % 16 ≤ 4 ∧ pg2 (pg1 l.1) ≤ 68 := by decide +kernel
theorem pd4 : ∀ l : Fin 256, ∀ r : Fin 5, (16 * r.1 + (pg2 (pg1 l.1) / 16 + pg2 (pg1 l.1))) &&& 15 = cntB (digs l.1 8) := by decide +kernel
theorem pc1_step (k h l : Nat) (hl : l < 256) : pc1 (k + 1) (256 * h + l) = 256 * pc1 k h + pg1 l := by
  have e : (256 * h + l) / 2 = 256 * (h / 2) + (128 * (h % 2) + l / 2) := by omega
  have d := pd1 ⟨l, hl⟩ ⟨h % 2, by omega⟩
  simp only at d
  simp only [pc1, mskB, pg1]
  rw [e, and256 _ _ _ _ (by omega) (by omega), and256 _ _ _ _ hl (by omega), d]
  omega
theorem pc2_step (k h l : Nat) (hl : l < 256) : pc2 (k + 1) (256 * h + l) = 256 * pc2 k h + pg2 l := by
  have e : (256 * h + l) / 4 = 256 * (h / 4) + (64 * (h % 4) + l / 4) := by omega
  have d := pd2 ⟨l, hl⟩ ⟨h % 4, by omega⟩
  simp only at d
  simp only [pc2, mskB, pg2]
  rw [e, and256 _ _ _ _ (by omega) (by omega), and256 _ _ _ _ hl (by omega), d]
  omega
theorem pc12 : ∀ (k x : Nat), pc2 k (pc1 k x) % 16 ≤ 4
  | 0, x => by simp [pc1, pc2, mskB]
  | k + 1, x => by
    have hl : x % 256 < 256 := Nat.mod_lt _ (by omega)
    have d := pd3 ⟨x % 256, hl⟩
    simp only at d
    have e : x = 256 * (x / 256) + x % 256 := by omega
    rw [e, pc1_step k _ _ hl, pc2_step k _ _ d.1]
    omega
def cntW : Nat → Nat → Nat
  | 0, _ => 0
  | k + 1, x => cntB (digs (x % 256) 8) + 256 * cntW k (x / 256)
theorem pc_all : ∀ (k x : Nat), pc3 k (pc2 k (pc1 k x)) = cntW k x
  | 0, x => by simp [pc3, mskB, cntW]
  | k + 1, x => by
    have hl : x % 256 < 256 := Nat.mod_lt _ (by omega)
    have d := pd3 ⟨x % 256, hl⟩
    simp only at d
    have ih := pc_all k (x / 256)
    have h16 := pc12 k (x / 256)
    have d4 := pd4 ⟨x % 256, hl⟩ ⟨pc2 k (pc1 k (x / 256)) % 16, by omega⟩
    simp only at d4
    rw [cntW, ← ih, ← d4]
    conv => lhs; rw [show x = 256 * (x / 256) + x % 256 by omega]
    rw [pc1_step k _ _ hl, pc2_step k _ _ d.1]
    generalize pc2 k (pc1 k (x / 256)) = H at *
    generalize pg2 (pg1 (x % 256)) = L at *
    simp only [pc3, mskB]
    have e : (256 * H + L) / 16 + (256 * H + L) = 256 * (H / 16 + H) + (16 * (H % 16) + (L / 16 + L)) := by omega
    rw [e, and256 _ _ _ _ (by omega) (by omega)]
    omega
theorem cntB_digs8 (x w : Nat) : cntB (digs x (w + 8)) = cntB (digs (x % 256) 8) + cntB (digs (x / 256) w) := by
  have e : x / 2 / 2 / 2 / 2 / 2 / 2 / 2 / 2 = x / 256 := by omega
  simp only [digs_succ x, digs_succ (x / 2), digs_succ (x / 2 / 2), digs_succ (x / 2 / 2 / 2), digs_succ (x / 2 / 2 / 2 / 2), digs_succ (x / 2 / 2 / 2 / 2 / 2), digs_succ (x / 2 / 2 / 2 / 2 / 2 / 2), digs_succ (x / 2 / 2 / 2 / 2 / 2 / 2 / 2), e, cntB]
  rw [show (8 : Nat) = 0 + 1 + 1 + 1 + 1 + 1 + 1 + 1 + 1 by rfl]
  simp only [digs_succ, cntB, Nat.testBit_zero]
  have h0 : x % 256 % 2 = x % 2 := by omega
  have h1 : x % 256 / 2 % 2 = x / 2 % 2 := by omega
  have h2 : x % 256 / 2 / 2 % 2 = x / 2 / 2 % 2 := by omega
  have h3 : x % 256 / 2 / 2 / 2 % 2 = x / 2 / 2 / 2 % 2 := by omega
  have h4 : x % 256 / 2 / 2 / 2 / 2 % 2 = x / 2 / 2 / 2 / 2 % 2 := by omega
  have h5 : x % 256 / 2 / 2 / 2 / 2 / 2 % 2 = x / 2 / 2 / 2 / 2 / 2 % 2 := by omega
  have h6 : x % 256 / 2 / 2 / 2 / 2 / 2 / 2 % 2 = x / 2 / 2 / 2 / 2 / 2 / 2 % 2 := by omega
  have h7 : x % 256 / 2 / 2 / 2 / 2 / 2 / 2 / 2 % 2 = x / 2 / 2 / 2 / 2 / 2 / 2 / 2 % 2 := by omega
  rw [h0, h1, h2, h3, h4, h5, h6, h7]
  simp only [digs, List.range_zero, List.map_nil, cntB, Nat.add_zero, Nat.add_assoc]
theorem cntB_len : ∀ b : List Bool, cntB b ≤ b.length
  | [] => Nat.le_refl _
  | x :: b => by
    have := cntB_len b
    have hx := Bool.toNat_le x
    simp only [cntB, List.length_cons]; omega
theorem cnt8 (x : Nat) : cntB (digs x 8) ≤ 8 := by have := cntB_len (digs x 8); rwa [digs_len] at this
/-- What the sums of the bytes come to. -/
theorem cnt_sum (x : Nat) (hx : x < 18446744073709551616) : ∃ b0 b1 b2 b3 b4 b5 b6 b7 : Nat, b0 ≤ 8 ∧ b1 ≤ 8 ∧ b2 ≤ 8 ∧ b3 ≤ 8 ∧ b4 ≤ 8 ∧ b5 ≤ 8 ∧ b6 ≤ 8 ∧ b7 ≤ 8 ∧
    cntW 8 x = b0 + 256 * (b1 + 256 * (b2 + 256 * (b3 + 256 * (b4 + 256 * (b5 + 256 * (b6 + 256 * b7)))))) ∧ cntB (digs x 64) = b0 + b1 + b2 + b3 + b4 + b5 + b6 + b7 := by
  refine ⟨_, _, _, _, _, _, _, _, cnt8 _, cnt8 _, cnt8 _, cnt8 _, cnt8 _, cnt8 _, cnt8 _, cnt8 _, rfl, ?_⟩
  have hm : x / 256 / 256 / 256 / 256 / 256 / 256 / 256 % 256 = x / 256 / 256 / 256 / 256 / 256 / 256 / 256 := by omega
  rw [cntB_digs8 x 56, cntB_digs8 _ 48, cntB_digs8 _ 40, cntB_digs8 _ 32, cntB_digs8 _ 24, cntB_digs8 _ 16, cntB_digs8 _ 8, cntB_digs8 _ 0]
  rw [hm]
  simp [digs, cntB, Nat.add_assoc]
end Go.Proofs.YtceleegbbclajaaDoor.AL
