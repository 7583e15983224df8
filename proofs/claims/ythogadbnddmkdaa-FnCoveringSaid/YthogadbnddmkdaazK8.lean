/- Subsets in order: ranks, the next one, all of them. -/
import Derived.Test.YthogadbnddmkdaaProg
import Derived.KernelRfl
import Derived.Test.YthogadbnddmkdaazK6
set_option linter.unusedSimpArgs false
set_option linter.unusedVariables false
set_option maxHeartbeats 4000000
set_option maxRecDepth 100000
namespace Go.Proofs.Ythogadbnddmkdaa
open Go.Av
def tab (n : Nat) (f : Nat → Int) : List Int := (List.range n).map f
theorem tab_length (n : Nat) (f : Nat → Int) : (tab n f).length = n := by simp [tab]
theorem tab_set (n : Nat) (f : Nat → Int) (i : Nat) (v : Int) : (tab n f).set i v = tab n (fun j => if j = i then v else f j) := by
  unfold tab
  apply List.ext_getElem
  · simp
  · intro j h1 h2
    simp only [List.getElem_set, List.getElem_map, List.getElem_range]
    by_cases h : i = j
    · simp [h]
    · simp [h, Ne.symm h]
theorem tab_congr {n : Nat} {f g : Nat → Int} (h : ∀ j, j < n → f j = g j) : tab n f = tab n g := by
  unfold tab
  exact List.map_congr_left fun j hj => h j (List.mem_range.1 hj)
theorem tab_rep (n : Nat) (v : Int) : List.replicate n v = tab n fun _ => v := by
  unfold tab
  apply List.ext_getElem <;> simp
end Go.Proofs.Ythogadbnddmkdaa
