/- The laws' helpers at designs: copied, compared, marked, held. -/
import Derived.Test.YtkifdjjnbplghaaK4
import Derived.Test.YtkifdjjnbplghaaL7
import Derived.Test.YtkifdjjnbplghaaL3
set_option linter.unusedSimpArgs false
set_option linter.unusedVariables false
set_option maxHeartbeats 4000000
set_option maxRecDepth 100000
namespace Go.Proofs.Ytkifdjjnbplghaa
open Go.Av

/-! A list of rows that grows. -/
end Go.Proofs.Ytkifdjjnbplghaa
