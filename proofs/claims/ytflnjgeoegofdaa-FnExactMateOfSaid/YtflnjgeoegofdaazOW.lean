/- Copies of lists, frozen. -/
import Derived.Test.YtflnjgeoegofdaazU1
import Derived.Test.YtflnjgeoegofdaazM2
set_option linter.unusedSimpArgs false
set_option linter.unusedVariables false
set_option maxHeartbeats 4000000
set_option maxRecDepth 100000
namespace Go.Av
end Go.Av
namespace Go.Proofs.Ytflnjgeoegofdaa
open Go.Av
abbrev tyLL : Nat := 30
end Go.Proofs.Ytflnjgeoegofdaa
