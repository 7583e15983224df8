/- Exact covers: what is covered; IsCover; OptionsWith. -/
import Derived.Test.YtchehdplcbffmaazK6
set_option linter.unusedSimpArgs false
set_option linter.unusedVariables false
set_option maxHeartbeats 4000000
set_option maxRecDepth 100000
namespace Go.Proofs.Ytchehdplcbffmaa
open Go.Av
def counts (n : Nat) (l : List Int) : List Int := (List.range n).map fun (i : Nat) => (l.count (i : Int) : Int)
end Go.Proofs.Ytchehdplcbffmaa
