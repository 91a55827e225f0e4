/- Laid by a program of this session over the printer of the kit: contracts of functions of the given program, and rows of laws. Lean checks it. -/
import Derived.Test.YtjjhdfpdoopedaaPGGrowx0
import Derived.Test.YtjjhdfpdoopedaaPGGrowx1
import Derived.Test.YtjjhdfpdoopedaaPGGrowx2
namespace Go.Proofs.Ytjjhdfpdoopedaa.PGGrow
open Go.RowKit Go.Proofs.YtjjhdfpdoopedaaW.PrintWords Go.Proofs.YtjjhdfpdoopedaaW.PrintLast Go.Proofs.YtjjhdfpdoopedaaW.PrintMore
attribute [local go_sem] max2_int min2_int max_two min_two max_three min_three max_four min_four   -- for this text's walks alone
set_option linter.unusedVariables false
set_option linter.unusedSimpArgs false

open Go.Proofs.Ytjjhdfpdoopedaa.Opens in
def watersmeetlaw27_GuessGrows.Pure : Prop := ∀ (x0 : List (S57)) (x1 : S46) (x2 : S51), (SliceB 56 b57) x0 → b46 x1 → b51 x2 → ∃ k, watersmeetlaw27_GuessGrows.f k x0 x1.f0 x1.f1 x2.f0 x2.f1 x2.f2 = some true


end Go.Proofs.Ytjjhdfpdoopedaa.PGGrow
