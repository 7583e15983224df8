/- Copies of lists, frozen. -/
import Derived.Test.YtpaagkipnlbibaaProg
import Derived.KernelRfl
import Derived.Test.YtpaagkipnlbibaazU1
import Derived.Test.YtpaagkipnlbibaazM2
set_option linter.unusedSimpArgs false
set_option linter.unusedVariables false
set_option maxHeartbeats 4000000
set_option maxRecDepth 100000
namespace Go.Av
end Go.Av
namespace Go.Proofs.Ytpaagkipnlbibaa
open Go.Av
abbrev tyLL : Nat := 29
end Go.Proofs.Ytpaagkipnlbibaa
