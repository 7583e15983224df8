/- Lists copied. -/
import Derived.Test.YtkifdjjnbplghaaG1
import Derived.Test.YtkifdjjnbplghaaK50
import Derived.Test.YtkifdjjnbplghaaK8
import Derived.Test.YtkifdjjnbplghaaM2
set_option linter.unusedSimpArgs false
set_option linter.unusedVariables false
set_option maxHeartbeats 4000000
set_option maxRecDepth 100000
namespace Go.Proofs.Ytkifdjjnbplghaa
open Go.Av

end Go.Proofs.Ytkifdjjnbplghaa
