/- Permutations and squares that are valid: the reference, the program. -/
import Derived.Test.YthogadbnddmkdaaGreatzK18
import Derived.Test.YthogadbnddmkdaaGreatzK19
import Derived.Test.YthogadbnddmkdaaGreatzU1
set_option linter.unusedSimpArgs false
set_option linter.unusedVariables false
set_option maxHeartbeats 4000000
set_option maxRecDepth 100000
namespace Go.Proofs.YthogadbnddmkdaaGreat
open Go.Av
def permB (p : List Int) : Bool := decide (p.length ≤ 32) && decide ((∀ x ∈ p, 0 ≤ x ∧ x < (p.length : Int)) ∧ p.Nodup)
end Go.Proofs.YthogadbnddmkdaaGreat
