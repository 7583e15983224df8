/- Permutations, images of sets and of systems: the plain law. -/
import Derived.Test.YtdgcgckehihboaaGreatDoorzS3
import Derived.Test.YtdgcgckehihboaaGreatDoorzS1
import Derived.Test.YtdgcgckehihboaaGreatDoorzK2
import Derived.Test.YtdgcgckehihboaaGreatDoorzK8
set_option linter.unusedSimpArgs false
set_option linter.unusedVariables false
set_option linter.unusedSectionVars false
set_option maxHeartbeats 4000000
set_option maxRecDepth 100000
namespace Go.Proofs.YtdgcgckehihboaaGreatDoor
variable [Go.Av.DoorC]
open Go.Av
def permOk (n : Nat) (p : List Int) : Prop := p.length = n ∧ p.Nodup ∧ ∀ x ∈ p, 0 ≤ x ∧ x < n
theorem idL_ok (n : Nat) : permOk n (idL n) := by
  refine ⟨by simp [idL, tab], ?_, ?_⟩
  · unfold idL tab
    rw [List.nodup_iff_pairwise_ne, List.pairwise_map]
    exact (List.nodup_iff_pairwise_ne.1 List.nodup_range).imp (fun h e => h (Int.ofNat_inj.1 e))
  · intro x hx
    unfold idL tab at hx
    obtain ⟨i, hi, rfl⟩ := List.mem_map.1 hx
    simp at hi; omega
end Go.Proofs.YtdgcgckehihboaaGreatDoor
