/- The matrix of orbits: the reference. -/
import Derived.Test.YtkifdjjnbplghaaGreatProg
import Derived.KernelRfl
import Derived.Test.YtkifdjjnbplghaaGreatzY4
set_option linter.unusedSimpArgs false
set_option linter.unusedVariables false
set_option maxHeartbeats 4000000
set_option maxRecDepth 100000
namespace Go.Proofs.YtkifdjjnbplghaaGreat
open Go.Av
@[go_sem] theorem ren_il3 {H : List Blk} {k : Nat} {js : List (Option Nat)} (xs : List (List (List Int))) : Ren H k js (il3 xs) (il3 xs) := .old _ (by rw [Bel_il3]; trivial)
end Go.Proofs.YtkifdjjnbplghaaGreat
