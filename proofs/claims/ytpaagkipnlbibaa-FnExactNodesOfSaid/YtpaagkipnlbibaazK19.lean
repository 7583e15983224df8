/- Valid designs: the program, the reference. -/
import Derived.Test.YtpaagkipnlbibaaProg
import Derived.KernelRfl
import Derived.Test.YtpaagkipnlbibaazU1
import Derived.Test.YtpaagkipnlbibaazK4
import Derived.Test.YtpaagkipnlbibaazK7
import Derived.Test.YtpaagkipnlbibaazK2
set_option linter.unusedSimpArgs false
set_option linter.unusedVariables false
set_option maxHeartbeats 4000000
set_option maxRecDepth 100000
namespace Go.Proofs.Ytpaagkipnlbibaa
open Go.Av
theorem get_appU {H : List Blk} {p : Nat} {b : Blk} (h : H[p]? = some b) (ext : List Blk) : (H ++ ext)[p]? = some b := by
  rw [List.getElem?_append_left (List.getElem?_eq_some_iff.1 h).1]; exact h
theorem nilOrSnoc {α : Type} (xs : List α) : xs = [] ∨ ∃ r b, xs = r ++ [b] := by
  rcases List.eq_nil_or_concat xs with h | ⟨r, b, h⟩
  · exact .inl h
  · exact .inr ⟨r, b, by simpa using h⟩
end Go.Proofs.Ytpaagkipnlbibaa
