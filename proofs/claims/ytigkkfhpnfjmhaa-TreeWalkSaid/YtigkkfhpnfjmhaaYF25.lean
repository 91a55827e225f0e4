/- The plain law of law 06: sets of one table. -/
import Derived.Test.YtigkkfhpnfjmhaaYF8
namespace Go.Proofs.Ytigkkfhpnfjmhaa.AL
open Go
set_option maxRecDepth 20000
end Go.Proofs.Ytigkkfhpnfjmhaa.AL
