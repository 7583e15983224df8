/- Squares that are valid: the program. -/
import Derived.Test.YtflnjgeoegofdaazQ4
import Derived.Test.YtflnjgeoegofdaazQ3
set_option linter.unusedSimpArgs false
set_option linter.unusedVariables false
set_option maxHeartbeats 4000000
set_option maxRecDepth 100000
namespace Go.Proofs.Ytflnjgeoegofdaa
open Go.Av
theorem ValidSquare_fn (xss : List (List Int)) (hl : ∀ x ∈ xss, x.length ≤ 2000000) : PFn Try.prog f_impl_ValidSquare [ilSS xss] (Bv (latB xss)) :=
  ValidSquare_of xss (arePermutations_fn _ xss hl) (fun p hp => ValidPermutation_fn p hp)
end Go.Proofs.Ytflnjgeoegofdaa
