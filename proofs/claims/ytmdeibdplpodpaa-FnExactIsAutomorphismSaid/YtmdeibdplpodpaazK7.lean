/- Exact covers: what is covered; IsCover; OptionsWith. -/
import Derived.Test.YtmdeibdplpodpaazK6
set_option linter.unusedSimpArgs false
set_option linter.unusedVariables false
set_option maxHeartbeats 4000000
set_option maxRecDepth 100000
namespace Go.Proofs.Ytmdeibdplpodpaa
open Go.Av
def marks (n : Nat) (l : List Int) : List Bool := (List.range n).map fun (i : Nat) => l.contains (i : Int)
theorem marks_nil (n : Nat) : List.replicate n false = marks n [] := by
  unfold marks; apply List.ext_getElem <;> simp
theorem marks_length (n : Nat) (l : List Int) : (marks n l).length = n := by simp [marks]
theorem marks_set (n : Nat) (l : List Int) (x : Int) (h0 : 0 ≤ x) : (marks n l).set x.toNat true = marks n (l ++ [x]) := by
  unfold marks
  apply List.ext_getElem
  · simp
  · intro i h1 h2
    simp only [List.getElem_set, List.getElem_map, List.getElem_range]
    split
    · rename_i h; subst h; simp [Int.toNat_of_nonneg h0]
    · rename_i h
      have : ¬ (i : Int) = x := by intro he; apply h; rw [← he]; simp
      simp [this]
theorem marks_get (n : Nat) (l : List Int) (x : Int) (h0 : 0 ≤ x) (h1 : x < n) : (marks n l).getD x.toNat false = l.contains x := by
  have : x.toNat < n := by omega
  simp [marks, this, Int.toNat_of_nonneg h0]
end Go.Proofs.Ytmdeibdplpodpaa
