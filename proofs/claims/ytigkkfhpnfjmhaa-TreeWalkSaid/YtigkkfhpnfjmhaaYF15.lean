/- Contracts: what a predicate is: the function. -/
import Derived.Test.YtigkkfhpnfjmhaaYF14
import Derived.Test.YtigkkfhpnfjmhaaYF13b
import Derived.Test.YtigkkfhpnfjmhaaYF1c
import Derived.Test.YtigkkfhpnfjmhaaYAS2
namespace Go.Proofs.Ytigkkfhpnfjmhaa.AL
open Go
set_option linter.unusedVariables false
set_option linter.unusedSimpArgs false
set_option maxRecDepth 4000
end Go.Proofs.Ytigkkfhpnfjmhaa.AL
