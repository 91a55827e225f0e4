/- Contracts: comparing values. -/
import Derived.Test.YtigkkfhpnfjmhaaYF1
namespace Go.Proofs.Ytigkkfhpnfjmhaa.AL
open Go
set_option linter.unusedVariables false
set_option linter.unusedSimpArgs false
set_option maxRecDepth 4000

end Go.Proofs.Ytigkkfhpnfjmhaa.AL
