/- What is left of a cover: the model, two ways. -/
import Derived.Test.YtnlfokkljgbaaaazK38
set_option linter.unusedSimpArgs false
set_option linter.unusedVariables false
set_option maxHeartbeats 4000000
set_option maxRecDepth 100000
namespace Go.Proofs.Ytnlfokkljgbaaaa
open Go.Av
def leftL (n : Nat) (E : List Int) : List Int := ((List.range n).map fun (i : Nat) => (i : Int)).filter fun x => !E.contains x
def cntL (E : List Int) (n : Nat) : Nat := (leftL n E).length
end Go.Proofs.Ytnlfokkljgbaaaa
