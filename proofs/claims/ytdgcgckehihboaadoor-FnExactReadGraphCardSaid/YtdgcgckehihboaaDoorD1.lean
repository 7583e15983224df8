/- The laws' helpers at designs: copied, compared, marked, held. -/
import Derived.Test.YtdgcgckehihboaaDoorK4
import Derived.Test.YtdgcgckehihboaaDoorL7
import Derived.Test.YtdgcgckehihboaaDoorL3
set_option linter.unusedSimpArgs false
set_option linter.unusedVariables false
set_option maxHeartbeats 4000000
set_option maxRecDepth 100000
namespace Go.Proofs.YtdgcgckehihboaaDoor
open Go.Av

/-! A list of rows that grows. -/
end Go.Proofs.YtdgcgckehihboaaDoor
