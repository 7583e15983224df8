/- Pairs of points: how many blocks hold them. -/
import Derived.Test.YthogadbnddmkdaazU1
import Derived.Test.YthogadbnddmkdaazL7
import Derived.Test.YthogadbnddmkdaazK1
import Derived.Test.YthogadbnddmkdaazK7
import Derived.Test.YthogadbnddmkdaazK3
import Derived.Test.YthogadbnddmkdaazK10
set_option linter.unusedSimpArgs false
set_option linter.unusedVariables false
set_option maxHeartbeats 4000000
set_option maxRecDepth 100000
namespace Go.Proofs.Ythogadbnddmkdaa
open Go.Av
def sqF (n : Nat) (f : Nat → Nat → Int) (x : Nat) : List (List Int) := (List.range x).map fun x => tab n (f x)
def cnt2 (n : Nat) (l : List (Int × Int)) : List (List Int) := sqF n (fun x y => (l.count ((x : Int), (y : Int)) : Int)) n
end Go.Proofs.Ythogadbnddmkdaa
