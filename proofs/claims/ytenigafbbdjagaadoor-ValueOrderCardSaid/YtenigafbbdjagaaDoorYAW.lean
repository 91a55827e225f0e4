/- Tactic texts under short names: each fact is shown of itself by one text. -/
import Derived.Test.YtenigafbbdjagaaDoorYAY
namespace Go.Proofs.YtenigafbbdjagaaDoor.AL
open Go
set_option linter.unusedVariables false
theorem xLT {P : Prop} (h : P := by first | exact lt_t rfl | exact lt_i | exact lt_b | exact lt_f | exact lt_nf | exact lt_g | exact lt_s (by simp only [go_sem]; with_reducible rfl)) : P := h
theorem xLK {P : Prop} (h : P := by first | exact lk_t rfl | exact lk_i | exact lk_b | exact lk_f | exact lk_nf | exact lk_g) : P := h
theorem xDK {P : Prop} (h : P := by first | exact dk_v rfl | exact dk_a rfl | exact dk_i | exact dk_b | exact dk_f | exact dk_g) : P := h
theorem xHB {P : Prop} (h : P := by first | with_reducible rfl | with_reducible assumption) : P := h
theorem xTY {P : Prop} (h : P := by simp only [go_sem]; with_reducible rfl) : P := h
theorem xGS {P : Prop} (h : P := by simp only [go_sem, Nat.reduceBEq, Nat.reduceAdd]; with_reducible rfl) : P := h
theorem xWT {P : Prop} (h : P := by first | exact wt_n rfl | ((with_reducible apply wt_g); (case h => exact rfl); (case hd => exact rfl); (case he => exact rfl); (case hb => exact xHB))) : P := h
theorem xWF {P : Prop} (h : P := by first | ((with_reducible apply wt_u); (case h => exact rfl); (case hd => exact rfl); (case he => exact rfl)) | ((with_reducible apply wt_ft); (case h => exact rfl); (case hd => exact rfl); (case he => exact rfl); (case hb => exact xHB)) | ((with_reducible apply wt_ff); (case h => exact rfl); (case hd => exact rfl); (case he => exact rfl); (case hb => exact xHB))) : P := h
theorem xDA {P : Prop} (h : P := by repeat' first | with_reducible exact da_nil | apply da_cons | exact dt_v rfl | exact dt_a rfl | exact dt_i | exact dt_b | exact dt_f | exact dt_g | exact dt_s (by simp only [go_sem]; with_reducible rfl) | exact dt_n rfl rfl) : P := h
theorem xUK {P : Prop} (h : P := by (fail_if_success (refine unk_t ?_; first | with_reducible assumption | with_reducible rfl)); (fail_if_success (refine unk_f ?_; first | with_reducible assumption | with_reducible rfl)); exact unk_i) : P := h
theorem xRT {P : Prop} (h : P := by first | ((with_reducible apply rt_v); exact rfl) | ((with_reducible apply rt_a) <;> exact rfl) | ((with_reducible apply rt_t); exact rfl)) : P := h
theorem xRD {P : Prop} (h : P := by first | ((with_reducible apply rt_v); exact rfl) | ((with_reducible apply rt_a) <;> exact rfl) | ((with_reducible apply rt_t); exact rfl) | exact cr_v | exact cr_a | exact cr_t) : P := h
theorem xE0 {P : Prop} (h : P := by first | ((with_reducible apply e_mv); exact xLT) | ((with_reducible apply e_as); exact xLT) | ((with_reducible apply e_lL); (case hx => exact xLK); (case hb => exact rfl); (case ht => exact xTY); (case hz => exact rfl); (case hv => exact rfl)) | ((with_reducible apply e_fL); (case hx => exact xLK); (case ht => exact xTY); (case hf => exact rfl); (case hz => exact rfl); (case hk => exact xGS)) | ((with_reducible apply e_lR); (case hx => exact xLK); (case ht => exact xTY); (case hz => exact rfl); (case hv => exact rfl)) | ((with_reducible apply e_lLA); (case hx => exact xLK); (case hb => exact rfl); (case ht => exact xTY); (case hz => exact rfl); (case hv => exact xGS)) | ((with_reducible apply e_lRA); (case hx => exact xLK); (case ht => exact xTY); (case hz => exact rfl); (case hv => exact xGS)) | ((with_reducible apply e_pt); (case hc => exact xLK); (case he => exact xHB); (case h => exact xLK)) | ((with_reducible apply e_pf); (case hc => exact xLK); (case he => exact xHB); (case h => exact xLK)) | ((with_reducible apply e_fR); (case hx => exact xLK); (case ht => exact xTY); (case hf => exact rfl); (case hz => exact rfl); (case hk => exact xGS))) : P := h
theorem xLs {P : Prop} (h : P := by simp only [List.cons_append, List.nil_append, List.append_nil]; with_reducible rfl) : P := h
end Go.Proofs.YtenigafbbdjagaaDoor.AL
