/- Squares of zeros, filled in place. -/
import Derived.Test.YtdgcgckehihboaaGreatDoorzU1
import Derived.Test.YtdgcgckehihboaaGreatDoorzK19
import Derived.Test.YtdgcgckehihboaaGreatDoorzK10
set_option linter.unusedSimpArgs false
set_option linter.unusedVariables false
set_option linter.unusedSectionVars false
set_option maxHeartbeats 4000000
set_option maxRecDepth 100000
namespace Go.Proofs.YtdgcgckehihboaaGreatDoor
variable [Go.Av.DoorC]
open Go.Av
theorem getD_get {α : Type} {l : List α} {k : Nat} {d : α} (h : k < l.length) : l.getD k d = l[k] := by
  rw [List.getD_eq_getElem?_getD, List.getElem?_eq_getElem h]; rfl
def setC (sq : List (List Int)) (x y : Nat) (v : Int) : List (List Int) := sq.set x ((sq.getD x []).set y v)
section
variable {H : List Blk} {n w x y : Nat} {sq : List (List Int)} {ext : List Blk}
end
end Go.Proofs.YtdgcgckehihboaaGreatDoor
