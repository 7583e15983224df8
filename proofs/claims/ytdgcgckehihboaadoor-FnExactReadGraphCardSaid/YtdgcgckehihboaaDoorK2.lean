/- Functions that look. -/
import Derived.Test.YtdgcgckehihboaaDoorK1
import Derived.Test.YtdgcgckehihboaaDoorL7
set_option linter.unusedSimpArgs false
set_option linter.unusedVariables false
set_option maxHeartbeats 4000000
set_option maxRecDepth 100000
namespace Go.Proofs.YtdgcgckehihboaaDoor
open Go.Av

theorem within_fn (n lo hi : Int) : PFn Tryd.prog f_impl_within [I n, I lo, I hi] (Bv (decide (lo ≤ n) && decide (n ≤ hi))) := fun H => within_ok H n lo hi
theorem l00In_fn (n lo hi : Int) : PFn Tryd.prog f_spec_l00In [I n, I lo, I hi] (Bv (decide (lo ≤ n) && decide (n ≤ hi))) := fun H => l00In_ok H n lo hi

theorem wfI {x : Int} (h : (Lit.int .i64 x).wf = true) : -9223372036854775808 ≤ x ∧ x ≤ 9223372036854775807 := by
  simp [Lit.wf, IntKind.min, IntKind.max, IntKind.signed, IntKind.bits] at h
  omega

/-- Ascending from lo on, at most hi. -/
def asc (lo hi : Int) : List Int → Bool
  | [] => true
  | x :: r => decide (lo ≤ x) && decide (x ≤ hi) && asc (x + 1) hi r

def coverOk (n : Int) (xss : List (List Int)) : Bool := decide (1 ≤ n) && decide (n ≤ 64) && decide (xss.length ≤ 256) && xss.all fun xs => !xs.isEmpty && asc 0 (n - 1) xs

end Go.Proofs.YtdgcgckehihboaaDoor
