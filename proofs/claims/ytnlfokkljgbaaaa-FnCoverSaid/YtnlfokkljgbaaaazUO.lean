/- Transversals: what is answered. -/
import Derived.Test.YtnlfokkljgbaaaazUG
set_option linter.unusedSimpArgs false
set_option linter.unusedVariables false
set_option maxHeartbeats 4000000
set_option maxRecDepth 100000
namespace Go.Proofs.Ytnlfokkljgbaaaa
open Go.Av
theorem ext_of {H H1 : List Blk} (hl : H.length ≤ H1.length) (hs : ∀ j, j < H.length → H1[j]? = H[j]?) : ∃ ext, H1 = H ++ ext := by
  refine ⟨H1.drop H.length, ?_⟩
  have e : H1.take H.length = H := by
    refine List.ext_getElem? fun j => ?_
    rw [List.getElem?_take]
    split
    · exact hs j (by assumption)
    · rw [List.getElem?_eq_none (by omega)]
  conv => rhs; rw [← e]
  rw [List.length_take, Nat.min_eq_left hl, List.take_append_drop]
end Go.Proofs.Ytnlfokkljgbaaaa
