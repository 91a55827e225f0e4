/- Sizes of predicates. -/
import Derived.Test.YtigkkfhpnfjmhaaYF13
import Derived.Test.YtigkkfhpnfjmhaaYF14
namespace Go.Proofs.Ytigkkfhpnfjmhaa.AL
open Go
end Go.Proofs.Ytigkkfhpnfjmhaa.AL
