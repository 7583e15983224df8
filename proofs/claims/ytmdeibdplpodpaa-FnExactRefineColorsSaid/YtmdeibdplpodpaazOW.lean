/- Copies of lists, frozen. -/
import Derived.Test.YtmdeibdplpodpaaProg
import Derived.KernelRfl
import Derived.Test.YtmdeibdplpodpaazU1
import Derived.Test.YtmdeibdplpodpaazM2
set_option linter.unusedSimpArgs false
set_option linter.unusedVariables false
set_option maxHeartbeats 4000000
set_option maxRecDepth 100000
namespace Go.Av
end Go.Av
namespace Go.Proofs.Ytmdeibdplpodpaa
open Go.Av
abbrev tyLL : Nat := 22
end Go.Proofs.Ytmdeibdplpodpaa
