/- Copies of lists, frozen. -/
import Derived.Test.YthogadbnddmkdaaProg
import Derived.KernelRfl
import Derived.Test.YthogadbnddmkdaazU1
import Derived.Test.YthogadbnddmkdaazM2
set_option linter.unusedSimpArgs false
set_option linter.unusedVariables false
set_option maxHeartbeats 4000000
set_option maxRecDepth 100000
namespace Go.Av
end Go.Av
namespace Go.Proofs.Ythogadbnddmkdaa
open Go.Av
abbrev tyLL : Nat := 39
end Go.Proofs.Ythogadbnddmkdaa
