/- Graphs of sets: the program. -/
import Derived.Test.YtmdeibdplpodpaaProg
import Derived.KernelRfl
import Derived.Test.YtmdeibdplpodpaazE1
import Derived.Test.YtmdeibdplpodpaazK20
import Derived.Test.YtmdeibdplpodpaazK6
import Derived.Test.YtmdeibdplpodpaazK19
import Derived.Test.YtmdeibdplpodpaazK4
import Derived.Test.YtmdeibdplpodpaazL2
set_option linter.unusedSimpArgs false
set_option linter.unusedVariables false
set_option maxHeartbeats 4000000
set_option maxRecDepth 100000
namespace Go.Proofs.Ytmdeibdplpodpaa
open Go.Av
abbrev tyGr : Nat := 30
end Go.Proofs.Ytmdeibdplpodpaa
