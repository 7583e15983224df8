/- SquareCover: what both sides return. -/
import Derived.Test.YtflnjgeoegofdaazL3
set_option linter.unusedSimpArgs false
set_option linter.unusedVariables false
set_option maxHeartbeats 4000000
set_option maxRecDepth 100000
namespace Go.Proofs.Ytflnjgeoegofdaa
open Go.Av
abbrev tySS : Nat := 30
theorem prefix_of {H H' : List Blk} (hl : H.length ≤ H'.length) (h : ∀ j, j < H.length → H'[j]? = H[j]?) : ∃ ext, H' = H ++ ext := by
  refine ⟨H'.drop H.length, ?_⟩
  have : H'.take H.length = H := by
    apply List.ext_getElem?
    intro j
    by_cases hj : j < H.length
    · rw [List.getElem?_take_of_lt hj, h j hj]
    · rw [List.getElem?_eq_none (by simp; omega), List.getElem?_eq_none (by omega)]
  rw [← this, List.length_take, Nat.min_eq_left (by omega), List.take_append_drop]
end Go.Proofs.Ytflnjgeoegofdaa
