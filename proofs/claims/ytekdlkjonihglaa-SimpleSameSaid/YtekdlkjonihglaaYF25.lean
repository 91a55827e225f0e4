/- The plain law of law 06: sets of one table. -/
import Derived.Test.YtekdlkjonihglaaYF8
namespace Go.Proofs.Ytekdlkjonihglaa.AL
open Go
set_option maxRecDepth 20000
theorem set_in : ∀ t : Fin 64, setF [((t : Nat) : Int)] = refSetF [((t : Nat) : Int)] := by decide +kernel
theorem refSetU_out {t : Int} (h : ¬ (0 ≤ t ∧ t < 64)) : ∀ n, n ≤ 64 → refSetU [t] n = 0
  | 0, _ => rfl
  | n + 1, hn => by
    rw [refSetU_succ, refSetU_out h n (by omega), if_neg]
    intro hm
    simp only [List.mem_singleton] at hm
    omega
theorem set_one (t : Int) : setF [t] = refSetF [t] := by
  by_cases h : 0 ≤ t ∧ t < 64
  · have := set_in ⟨t.toNat, by omega⟩
    simp only at this
    rwa [show ((t.toNat : Nat) : Int) = t by omega] at this
  · have h1 : refSetF [t] = 0 := refSetU_out h 64 (by omega)
    have h2 : oneF t = 0 := by unfold oneF; rw [if_pos (by omega)]
    rw [h1]
    simp only [setF, List.foldl_cons, List.foldl_nil, h2]
    decide +kernel
theorem trm_tab (t : Trm) : trmTabF t = refTrmTabF t := by unfold trmTabF refTrmTabF; rw [set_one]
end Go.Proofs.Ytekdlkjonihglaa.AL
