/- What is left of a cover: the program. -/
import Derived.Test.YtnlfokkljgbaaaaProg
import Derived.KernelRfl
import Derived.Test.YtnlfokkljgbaaaazK39
import Derived.Test.YtnlfokkljgbaaaazG1
import Derived.Test.YtnlfokkljgbaaaazM2
set_option linter.unusedSimpArgs false
set_option linter.unusedVariables false
set_option maxHeartbeats 4000000
set_option maxRecDepth 100000
namespace Go.Proofs.Ytnlfokkljgbaaaa
open Go.Av
abbrev fresh (D : List Int) (y : Int) : Int := (cntL D y.toNat : Int)
end Go.Proofs.Ytnlfokkljgbaaaa
