/- The search for difference sets: the program. -/
import Derived.Test.YthogadbnddmkdaazSJ
import Derived.Test.YthogadbnddmkdaazK10
set_option linter.unusedSimpArgs false
set_option linter.unusedVariables false
set_option maxHeartbeats 4000000
set_option maxRecDepth 100000
namespace Go.Proofs.Ythogadbnddmkdaa
open Go.Av
theorem _root_.Go.Av.HB.set {H : List Blk} (h : HB H) (p : Nat) {b : Blk} (hb : ∀ c ∈ b.cells, Bel H.length c) : HB (H.set p b) := by
  intro b' hb' c hc
  rw [List.length_set]
  rcases List.mem_or_eq_of_mem_set hb' with h2 | rfl
  · exact h b' h2 c hc
  · exact hb c hc
theorem get_appF {H : List Blk} {p : Nat} {b : Blk} (h : H[p]? = some b) (ext : List Blk) : (H ++ ext)[p]? = some b := by
  rw [List.getElem?_append_left (List.getElem?_eq_some_iff.1 h).1]; exact h
end Go.Proofs.Ythogadbnddmkdaa
