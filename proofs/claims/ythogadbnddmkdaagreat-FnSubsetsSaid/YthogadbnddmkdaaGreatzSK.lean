/- Counting packings: the reference. -/
import Derived.Test.YthogadbnddmkdaaGreatProg
import Derived.KernelRfl
import Derived.Test.YthogadbnddmkdaaGreatzSJ
import Derived.Test.YthogadbnddmkdaaGreatzS3
import Derived.Test.YthogadbnddmkdaaGreatzK2
import Derived.Test.YthogadbnddmkdaaGreatzL1
import Derived.Test.YthogadbnddmkdaaGreatzK8
set_option linter.unusedSimpArgs false
set_option linter.unusedVariables false
set_option maxHeartbeats 4000000
set_option maxRecDepth 100000
namespace Go.Proofs.YthogadbnddmkdaaGreat
open Go.Av
theorem subsL_ascK : ∀ (m : Nat) (lo : Int) (k : Nat), Asc cmpL (subsL m lo k)
  | m, lo, 0 => by cases m <;> simp [subsL, Asc]
  | 0, lo, k + 1 => by simp [subsL, Asc]
  | m + 1, lo, k + 1 => by
    unfold subsL Asc
    rw [List.pairwise_append, List.pairwise_map]
    refine ⟨(subsL_ascK m (lo + 1) k).imp (fun h => ?_), subsL_ascK m (lo + 1) (k + 1), ?_⟩
    · simpa [cmpL] using h
    · intro a ha b hb
      obtain ⟨c, _, rfl⟩ := List.mem_map.1 ha
      obtain ⟨h1, h2⟩ := subsL_mem m (lo + 1) (k + 1) b hb
      cases b with
      | nil => simp at h1
      | cons y r =>
        have := asc_mem h2 y (by simp)
        simp only [cmpL]
        split <;> omega
end Go.Proofs.YthogadbnddmkdaaGreat
