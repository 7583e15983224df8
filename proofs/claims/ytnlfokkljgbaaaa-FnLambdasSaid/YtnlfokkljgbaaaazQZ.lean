/- Squares of zeros, filled in place. -/
import Derived.Test.YtnlfokkljgbaaaazU1
import Derived.Test.YtnlfokkljgbaaaazK20
set_option linter.unusedSimpArgs false
set_option linter.unusedVariables false
set_option maxHeartbeats 4000000
set_option maxRecDepth 100000
namespace Go.Proofs.Ytnlfokkljgbaaaa
open Go.Av
theorem getD_get {α : Type} {l : List α} {k : Nat} {d : α} (h : k < l.length) : l.getD k d = l[k] := by
  rw [List.getD_eq_getElem?_getD, List.getElem?_eq_getElem h]; rfl
section
variable {H : List Blk} {n w x y : Nat} {sq : List (List Int)} {ext : List Blk}
end
end Go.Proofs.Ytnlfokkljgbaaaa
