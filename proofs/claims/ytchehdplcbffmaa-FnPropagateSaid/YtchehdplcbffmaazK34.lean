/- Completions, counted: the reference; the law. -/
import Derived.Test.YtchehdplcbffmaaProg
import Derived.KernelRfl
import Derived.Test.YtchehdplcbffmaazK32
import Derived.Test.YtchehdplcbffmaazL7
import Derived.Test.YtchehdplcbffmaazK1
set_option linter.unusedSimpArgs false
set_option linter.unusedVariables false
set_option maxHeartbeats 4000000
set_option maxRecDepth 100000
namespace Go.Proofs.Ytchehdplcbffmaa
open Go.Av
theorem outS_good (n lim : Nat) (p : List (List Int)) (b : Nat) (h : 1 ≤ lim) : Good lim (outS n lim p b) := good_srch n lim _ _ _ st0_good (by show 0 < lim; omega) rfl
theorem outS_first (n lim : Nat) (p : List (List Int)) (b : Nat) (h : p.length = n ∧ ∀ r ∈ p, r.length = n) : FirstOk n (outS n lim p b) := first_srch n lim _ _ _ h st0_first
end Go.Proofs.Ytchehdplcbffmaa
