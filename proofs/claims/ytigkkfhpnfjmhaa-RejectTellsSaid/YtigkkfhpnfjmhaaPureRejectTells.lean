/- RejectTells: for all predicates and null tables reject.May, reject.Rejects tell what the reference tells; the chapter's examples hold. No condition beyond the row's own. -/
import Derived.Test.YtigkkfhpnfjmhaaPRejTx8
import Derived.Test.YtigkkfhpnfjmhaaRejGoodRejT
namespace Go.Proofs.Ytigkkfhpnfjmhaa.Pure
open Go.RowKit Go.Proofs.Ytigkkfhpnfjmhaa.PRejT Go.Proofs.YtigkkfhpnfjmhaaW.PrintWords Go.Proofs.YtigkkfhpnfjmhaaW.PrintLast Go.Proofs.YtigkkfhpnfjmhaaW.PrintMore Go.Proofs.Ytigkkfhpnfjmhaa.Bits Go.Proofs.Ytigkkfhpnfjmhaa.RejOfRejT Go.Proofs.Ytigkkfhpnfjmhaa.RejGoodRejT
set_option linter.unusedVariables false
set_option linter.unusedSimpArgs false

theorem RejectTells : watersmeetlaw07_RejectTells.Pure := by
  intro l n hl hwf
  obtain ⟨n, rfl, hn⟩ := wd_nat (show (Lit.int .u64 n).wf = true from hwf)
  obtain ⟨m, hl1, hl2⟩ := bs_of hl
  obtain ⟨ts, K1, ht, hT⟩ := goods hn m l hl2
  obtain ⟨K2, b, hf⟩ := few_some m l hl1 hl2
  obtain ⟨K3, hA⟩ := awake_ev
  have hloop : ∀ (d i k : Nat), i ≤ l.length → l.length - i = d → K1 + K3 + l.length + d + 20 < k → watersmeetlaw07_RejectTells.l0 k l (n : Int) (i : Int) = some true := by
    intro d
    induction d with
    | zero =>
      intro i k hi hd hk
      obtain ⟨k, rfl⟩ : ∃ m, k = m + 1 := ⟨k - 1, by omega⟩
      obtain ⟨e1, e2⟩ := rejects_f hn hl1 ht hT (k := k) (by omega)
      rw [watersmeetlaw07_RejectTells.l0, if_neg (by omega), e1, e2, Option.bind_some, Option.bind_some, if_pos (by simp), hA k (by omega)]; rfl
    | succ d ih =>
      intro i k hi hd hk
      obtain ⟨k, rfl⟩ : ∃ m, k = m + 1 := ⟨k - 1, by omega⟩
      have hlt : i < l.length := by omega
      obtain ⟨h0, h1, h2, h3⟩ := hT k (by omega) i hlt
      unfold mayF at h0
      unfold isF at h1 h2 h3
      rw [watersmeetlaw07_RejectTells.l0, if_pos (by omega), if_pos (by omega), rdP hlt, h0, Option.bind_some, h1, Option.bind_some, h2, Option.bind_some, h3, Option.bind_some, if_neg (by simp), wrap_succ (by omega)]
      exact ih (i + 1) k (by omega) (by omega) (by omega)
  refine ⟨K1 + K2 + K3 + 2 * l.length + 40, ?_⟩
  unfold watersmeetlaw07_RejectTells.f
  rw [hf _ (by omega), Option.bind_some]
  cases b with
  | true => rw [if_pos rfl]; exact hloop l.length 0 _ (by omega) (by omega) (by omega)
  | false => rw [if_neg (by simp), hA _ (by omega)]; rfl
end Go.Proofs.Ytigkkfhpnfjmhaa.Pure
