/- Sizes of predicates. -/
import Derived.Test.YtekdlkjonihglaaYF13
import Derived.Test.YtekdlkjonihglaaYF14
namespace Go.Proofs.Ytekdlkjonihglaa.AL
open Go
theorem parts_le {p : Prd} (hn : (gathF tab1F p).length ≤ 1000000) : p.parts.length ≤ 1000000 := by
  rw [gathF_eq, List.length_append] at hn
  have := gathL_ge p.parts
  omega
theorem part_nodes {p x : Prd} (hn : (gathF tab1F p).length ≤ 1000000) (h : x ∈ p.parts) : (gathF tab1F x).length ≤ 1000000 := by
  rw [gathF_eq, List.length_append] at hn
  have := gathL_mem h
  omega
theorem notHd_pos {f : Prd → Int} : ∀ {l : List Prd} (h : 0 < l.length), notHd (l.map f) = 2 - ofF (f l[0])
  | _ :: _, _ => rfl
theorem notHd_neg {f : Prd → Int} : ∀ {l : List Prd}, ¬ 0 < l.length → notHd (l.map f) = 1
  | [], _ => rfl
  | _ :: _, h => absurd (by simp) h
end Go.Proofs.Ytekdlkjonihglaa.AL
