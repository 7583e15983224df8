/- Valid designs: the program, the reference. -/
import Derived.Test.YtdgcgckehihboaaGreatDoorzU1
import Derived.Test.YtdgcgckehihboaaGreatDoorzL1
import Derived.Test.YtdgcgckehihboaaGreatDoorzK2
set_option linter.unusedSimpArgs false
set_option linter.unusedVariables false
set_option linter.unusedSectionVars false
set_option maxHeartbeats 4000000
set_option maxRecDepth 100000
namespace Go.Proofs.YtdgcgckehihboaaGreatDoor
variable [Go.Av.DoorC]
open Go.Av
theorem get_appU {H : List Blk} {p : Nat} {b : Blk} (h : H[p]? = some b) (ext : List Blk) : (H ++ ext)[p]? = some b := by
  rw [List.getElem?_append_left (List.getElem?_eq_some_iff.1 h).1]; exact h
theorem nilOrSnoc {α : Type} (xs : List α) : xs = [] ∨ ∃ r b, xs = r ++ [b] := by
  rcases List.eq_nil_or_concat xs with h | ⟨r, b, h⟩
  · exact .inl h
  · exact .inr ⟨r, b, by simpa using h⟩
theorem lastOf {α : Type} {xs pre post : List α} {d : α} (h : xs = pre ++ post) (h0 : 0 < pre.length) : ∃ r b, pre = r ++ [b] ∧ xs.getD (pre.length - 1) d = b := by
  rcases nilOrSnoc pre with rfl | ⟨r, b, rfl⟩
  · simp at h0
  · refine ⟨r, b, by simp, ?_⟩
    subst h; simp
end Go.Proofs.YtdgcgckehihboaaGreatDoor
