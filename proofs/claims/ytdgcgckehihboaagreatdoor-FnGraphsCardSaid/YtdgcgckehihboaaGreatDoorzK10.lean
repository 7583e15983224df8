/- Differences; new lists. -/
import Derived.Test.YtdgcgckehihboaaGreatDoorzK2
import Derived.Test.YtdgcgckehihboaaGreatDoorzK8
import Derived.Test.YtdgcgckehihboaaGreatDoorzAv17
set_option linter.unusedSimpArgs false
set_option linter.unusedVariables false
set_option linter.unusedSectionVars false
set_option maxHeartbeats 4000000
set_option maxRecDepth 100000
namespace Go.Proofs.YtdgcgckehihboaaGreatDoor
variable [Go.Av.DoorC]
open Go.Av
def NewL (P : Program) (f : FuncId) (args : List AV) (xs : List Int) : Prop :=
  ∀ H, ACalls P f args H fun r H' => ∃ ext, H' = H ++ ext ∧ OwnS H' (Btw H.length H'.length) H'.length r xs
theorem NewL.lend {P : Program} {f : FuncId} {args args' : List AV} {xs : List Int} (h : NewL P f args' xs) {H : List Blk} (hf : Frozs H args args') : ACalls P f args H fun r H' => ∃ ext, H' = H ++ ext ∧ OwnS H' (Btw H.length H'.length) H'.length r xs := by
  refine ((h []).lend hf ?_).mono ?_
  · rintro r H0 ⟨ext, rfl, ho⟩
    exact ho.ov
  · rintro r H' ⟨r0, H0, ⟨ext, rfl, ho⟩, rfl, rfl⟩
    refine ⟨_, rfl, ?_⟩
    have h2 := ho.sh (H := H) (N' := Btw H.length (H ++ H0.map (shB H.length)).length) (fun i hi => by
      unfold Btw at hi ⊢
      simp at hi ⊢; omega)
    have e : H.length + H0.length = (H ++ H0.map (shB H.length)).length := by simp
    rw [e] at h2
    exact h2
end Go.Proofs.YtdgcgckehihboaaGreatDoor
