/- Sets that fit to a system. -/
import Derived.Test.YthogadbnddmkdaaProg
import Derived.KernelRfl
import Derived.Test.YthogadbnddmkdaazK23
import Derived.Test.YthogadbnddmkdaazK20
import Derived.Test.YthogadbnddmkdaazK18
import Derived.Test.YthogadbnddmkdaazK2
import Derived.Test.YthogadbnddmkdaazM2
set_option linter.unusedSimpArgs false
set_option linter.unusedVariables false
set_option maxHeartbeats 4000000
set_option maxRecDepth 100000
namespace Go.Proofs.Ythogadbnddmkdaa
open Go.Av
def kept (S : List (List Int)) (P : List Int → Bool) (i : Nat) : List Nat := (List.range i).filter fun j => P (S.getD j [])
end Go.Proofs.Ythogadbnddmkdaa
