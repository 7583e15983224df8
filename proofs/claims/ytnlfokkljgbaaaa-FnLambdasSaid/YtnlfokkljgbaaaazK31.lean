/- The search that completes a partial square: the program. -/
import Derived.Test.YtnlfokkljgbaaaaProg
import Derived.KernelRfl
import Derived.Test.YtnlfokkljgbaaaazQZ
import Derived.Test.YtnlfokkljgbaaaazOW
import Derived.Test.YtnlfokkljgbaaaazK29
import Derived.Test.YtnlfokkljgbaaaazK10
import Derived.Test.YtnlfokkljgbaaaazK20
set_option linter.unusedSimpArgs false
set_option linter.unusedVariables false
set_option maxHeartbeats 4000000
set_option maxRecDepth 100000
namespace Go.Proofs.Ytnlfokkljgbaaaa
open Go.Av
section
variable {H : List Blk} {n x y : Nat} {sq : List (List Int)} {ext : List Blk}
theorem q0 : (sqB n 1 H.length sq ++ ext)[0]? = some ⟨n, 29, 1, nmsV 1 (H.length + 1) sq⟩ := rfl
end
end Go.Proofs.Ytnlfokkljgbaaaa
