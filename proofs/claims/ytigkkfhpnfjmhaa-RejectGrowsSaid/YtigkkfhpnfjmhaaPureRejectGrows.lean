/- RejectGrows: each predicate may have some truth, and one predicate more rejects no less, for all predicates and null tables; the chapter's examples hold. No condition beyond the row's own. -/
import Derived.Test.YtigkkfhpnfjmhaaPRejGx5
import Derived.Test.YtigkkfhpnfjmhaaMayOfRejG
namespace Go.Proofs.Ytigkkfhpnfjmhaa.Pure
open Go.RowKit Go.Proofs.Ytigkkfhpnfjmhaa.PRejG Go.Proofs.YtigkkfhpnfjmhaaW.PrintWords Go.Proofs.YtigkkfhpnfjmhaaW.PrintLast Go.Proofs.YtigkkfhpnfjmhaaW.PrintMore Go.Proofs.Ytigkkfhpnfjmhaa.Bits Go.Proofs.Ytigkkfhpnfjmhaa.MayOfRejG
set_option linter.unusedVariables false
set_option linter.unusedSimpArgs false

theorem RejectGrows : watersmeetlaw07_RejectGrows.Pure := by
  intro l p n hl hp hn
  obtain ⟨w0, w1⟩ := hn
  obtain ⟨n0, e0, hn0⟩ := wd_nat (show (Lit.int .u64 n.f0).wf = true from w0)
  obtain ⟨n1, e1, hn1⟩ := wd_nat (show (Lit.int .u64 n.f1).wf = true from w1)
  have hlen : l.length ≤ 1099511627744 := by have := hl.2.1; omega
  obtain ⟨m1, hl1, hl2⟩ := bs_of hl
  obtain ⟨m2, hp2⟩ := hp
  have hpm : Bn (m1 + m2) p := bn_le hp2 (by omega)
  have hlm : ∀ x ∈ l, Bn (m1 + m2) x := fun x hx => bn_le (hl2 x hx) (by omega)
  have hmore : ∀ x ∈ l ++ [p], Bn (m1 + m2) x := by
    intro x hx
    rcases List.mem_append.1 hx with h | h
    · exact hlm x h
    · rw [List.mem_singleton.1 h]; exact hpm
  generalize m1 + m2 = m at hpm hlm hmore
  have hor : n0 ||| n1 < 18446744073709551616 := Nat.or_lt_two_pow (n := 64) hn0 hn1
  have hll : (l ++ [p]).length ≤ 9223372036854775807 := by rw [List.length_append, List.length_singleton]; omega
  obtain ⟨K1, hT1⟩ := mays hn0 m l hlm
  obtain ⟨K2, hT2⟩ := mays hn0 m (l ++ [p]) hmore
  obtain ⟨K3, hA⟩ := awake_ev
  obtain ⟨K4, b, hf⟩ := few_some m (l ++ [p]) hll hmore
  obtain ⟨K5, hm0⟩ := may_ev hn0 m p hpm
  obtain ⟨K6, hm1⟩ := may_ev hor m p hpm
  obtain ⟨S, hS⟩ : ∃ S, S = K1 + K2 + K3 + K4 + K5 + K6 + l.length + 300 := ⟨_, rfl⟩
  have hj : watersmeetlaw07_RejectGrows.j1 (S + 1) l (l ++ [p]) false (n0 : Int) (n1 : Int) = some true := by
    rw [watersmeetlaw07_RejectGrows.j1, if_neg (by simp), rejects_f (m := m) hl1 hT1 (by omega), Option.bind_some]
    have hx := all_snoc n0 m l p
    cases hq : (allV n0 m l).2.2 with
    | true => rw [if_neg (by simp), hA _ (by omega)]; rfl
    | false =>
      have hz : (allV n0 m (l ++ [p])).2.2 = false := by
        rw [hx]
        unfold andV
        rw [hq]; rfl
      rw [if_pos (show (!false) = true from rfl), rejects_f (m := m) hll hT2 (by rw [List.length_append, List.length_singleton]; omega), Option.bind_some, hz, if_pos (show (!false) = true from rfl), hA _ (by omega)]; rfl
  have ep : (⟨p.f0, p.f1, p.f2, ⟨p.f3.f0, p.f3.f1, p.f3.f2, ⟨p.f3.f3.f0, p.f3.f3.f1⟩⟩, ⟨p.f4.f0, p.f4.f1, p.f4.f2, ⟨p.f4.f3.f0, p.f4.f3.f1⟩⟩, p.f5⟩ : SP) = p := by cases p; rfl
  have h0 := hm0 (S + 1) (by omega)
  have h1 := hm1 (S + 1) (by omega)
  have hF := hf (S + 2) (by omega)
  have hA2 := hA (S + 2) (by omega)
  unfold mayF at h0 h1
  refine ⟨S + 2, ?_⟩
  unfold watersmeetlaw07_RejectGrows.f
  rw [Option.bind_some, if_pos (by simp; omega), Option.bind_some, Option.bind_some, if_pos (by simp; omega), Option.bind_some, ep, List.nil_append, hF, Option.bind_some]
  cases b with
  | false => rw [if_neg (by simp), hA2]; rfl
  | true =>
    rw [if_pos rfl, watersmeetlaw07_RejectGrows.j0, e0, e1, or_cast hn0 hn1, h0, Option.bind_some, h1, Option.bind_some]
    have q0 := ne_may n0 m p
    have q1 := ne_may (n0 ||| n1) m p
    clear h0 h1 hm0 hm1
    generalize mayV n0 m p = A at q0
    generalize mayV (n0 ||| n1) m p = B at q1
    obtain ⟨a0, a1, a2⟩ := A
    obtain ⟨b0, b1, b2⟩ := B
    unfold ne at q0 q1
    revert q0 q1
    cases a0 <;> cases a1 <;> cases a2 <;> cases b0 <;> cases b1 <;> cases b2 <;> simp [hj]
end Go.Proofs.Ytigkkfhpnfjmhaa.Pure
