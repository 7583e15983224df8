/- Calls that return rows of their own and a code. -/
import Derived.Test.YtdgcgckehihboaaGreatDoorzL1
import Derived.Test.YtdgcgckehihboaaGreatDoorzAv17
set_option linter.unusedSimpArgs false
set_option linter.unusedVariables false
set_option linter.unusedSectionVars false
set_option maxHeartbeats 4000000
set_option maxRecDepth 100000
namespace Go.Proofs.YtdgcgckehihboaaGreatDoor
variable [Go.Av.DoorC]
open Go.Av
def FSS (P : Program) (f : FuncId) (args : List AV) (xss : List (List Int)) (code : Int) : Prop :=
  ∀ H, ACalls P f args H fun r H' => ∃ ext v, H' = H ++ ext ∧ r = .tup [v, I code] ∧ OwnSS H' (Btw H.length H'.length) v xss
theorem FSS.lend {P : Program} {f : FuncId} {args args' : List AV} {xss : List (List Int)} {code : Int} (h : FSS P f args' xss code) {H : List Blk} (hf : Frozs H args args') :
    ACalls P f args H fun r H' => ∃ ext v, H' = H ++ ext ∧ r = .tup [v, I code] ∧ OwnSS H' (Btw H.length H'.length) v xss := by
  refine ((h []).lend hf ?_).mono ?_
  · rintro r H0 ⟨ext, v, rfl, rfl, ho⟩
    exact .tup2 ho.ov (.I _)
  · rintro r H' ⟨r0, H0, ⟨ext, v, rfl, rfl, ho⟩, rfl, rfl⟩
    refine ⟨_, _, rfl, ?_, ho.sh (H := H) (N' := Btw H.length (H ++ _).length) (fun i hi => ?_)⟩
    · simp [sh_tup, sh_In]
    · unfold Btw at hi ⊢
      simp at hi ⊢; omega
end Go.Proofs.YtdgcgckehihboaaGreatDoor
