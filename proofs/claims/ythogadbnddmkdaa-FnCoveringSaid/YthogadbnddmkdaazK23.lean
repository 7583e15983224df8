/- Sets of a size, in order: by succession and by rank. -/
import Derived.Test.YthogadbnddmkdaazU1
import Derived.Test.YthogadbnddmkdaazL7
import Derived.Test.YthogadbnddmkdaazK1
import Derived.Test.YthogadbnddmkdaazK7
import Derived.Test.YthogadbnddmkdaazK2
import Derived.Test.YthogadbnddmkdaazK8
set_option linter.unusedSimpArgs false
set_option linter.unusedVariables false
set_option maxHeartbeats 4000000
set_option maxRecDepth 100000
namespace Go.Proofs.Ythogadbnddmkdaa
open Go.Av
def ch : Nat → Nat → Nat
  | _, 0 => 1
  | 0, _ + 1 => 0
  | m + 1, k + 1 => ch m k + ch m (k + 1)
end Go.Proofs.Ythogadbnddmkdaa
