/- Sorting by the library's function, by a comparison that only looks. -/
import Derived.Test.YtdgcgckehihboaaDoorS1
import Derived.Test.YtdgcgckehihboaaDoorK1
import Derived.Test.YtdgcgckehihboaaDoorAvC
import Derived.Test.YtdgcgckehihboaaDoorL3
set_option linter.unusedSimpArgs false
set_option linter.unusedVariables false
set_option maxHeartbeats 4000000
set_option maxRecDepth 100000
namespace Go.Sort
end Go.Sort
namespace Go.Av
open Go.RowKit Go.Sort Go.Proofs

end Go.Av
namespace Go.Proofs.YtdgcgckehihboaaDoor
open Go.Av Go.Sort

end Go.Proofs.YtdgcgckehihboaaDoor
