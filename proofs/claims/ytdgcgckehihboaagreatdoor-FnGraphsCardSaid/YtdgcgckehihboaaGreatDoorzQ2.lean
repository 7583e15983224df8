/- Permutations and squares that are valid: the program. -/
import Derived.Test.YtdgcgckehihboaaGreatDoorzK18
import Derived.Test.YtdgcgckehihboaaGreatDoorzK19
import Derived.Test.YtdgcgckehihboaaGreatDoorzU1
import Derived.Test.YtdgcgckehihboaaGreatDoorzK8
import Derived.Test.YtdgcgckehihboaaGreatDoorzSZ
set_option linter.unusedSimpArgs false
set_option linter.unusedVariables false
set_option linter.unusedSectionVars false
set_option maxHeartbeats 4000000
set_option maxRecDepth 100000
namespace Go.Proofs.YtdgcgckehihboaaGreatDoor
variable [Go.Av.DoorC]
open Go.Av
theorem rise_step {s : List Int} (h : s.Pairwise (· < ·)) (j : Nat) : ∀ (d : Nat) (hd : j + d < s.length), s[j] + (d : Int) ≤ s[j + d]
  | 0, _ => by simp
  | d + 1, hd => by
    have h1 := rise_step h j d (by omega)
    have h2 := List.pairwise_iff_getElem.1 h (j + d) (j + (d + 1)) (by omega) hd (by omega)
    omega
theorem rise_range {s : List Int} (h : s.Pairwise (· < ·)) (hm : ∀ x ∈ s, 0 ≤ x ∧ x < (s.length : Int)) : s = (List.range s.length).map fun (k : Nat) => (k : Int) := by
  apply List.ext_getElem
  · simp
  · intro j g1 g2
    simp only [List.getElem_map, List.getElem_range]
    have h1 := rise_step h 0 j (by omega)
    have h2 := rise_step h j (s.length - 1 - j) (by omega)
    have h3 := hm s[0] (List.getElem_mem _)
    have h4 := hm (s[j + (s.length - 1 - j)]'(by omega)) (List.getElem_mem _)
    simp only [Nat.zero_add] at h1
    omega
end Go.Proofs.YtdgcgckehihboaaGreatDoor
