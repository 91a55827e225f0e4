/- SatTells: for all words a, b and every list of words, the sums, products and shares of package sat are the reference's, and the chapter's examples hold. No condition beyond the row's own. -/
import Derived.Test.YtjjhdfpdoopedaaPSatx1
import Derived.Test.YtjjhdfpdoopedaaSatFacts
namespace Go.Proofs.Ytjjhdfpdoopedaa.Pure
open Go.RowKit Go.Proofs.Ytjjhdfpdoopedaa.PSat Go.Proofs.YtjjhdfpdoopedaaW.PrintWords Go.Proofs.YtjjhdfpdoopedaaW.PrintLast Go.Proofs.Ytjjhdfpdoopedaa.SatFacts Go.Proofs.Ytjjhdfpdoopedaa.SatMath

theorem SatTells : watersmeetlaw02_SatTells.Pure := by
  intro a b l ha hb hl _ hw
  have wa := wd_of ha
  have wb := wd_of hb
  have wl : ∀ x ∈ l, Wd x := fun x hx => wd_of (hw x hx)
  refine ⟨l.length + 1, ?_⟩
  unfold watersmeetlaw02_SatTells.f
  rw [awake]
  simp only [Option.bind_some]
  rw [add_two wa wb, ref_add_f wa wb, add_f wl, ref_sum hl wl, mul_f wa wb, ref_mul_f wa wb, share_f wa wb, ref_share_f wa wb]
  simp
end Go.Proofs.Ytjjhdfpdoopedaa.Pure
