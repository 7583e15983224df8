/- Orbits of all sets: both functions, with codes. -/
import Derived.Test.YthogadbnddmkdaaGreatProg
import Derived.KernelRfl
import Derived.Test.YthogadbnddmkdaaGreatzVC
import Derived.Test.YthogadbnddmkdaaGreatzY0
import Derived.Test.YthogadbnddmkdaaGreatzY8
import Derived.Test.YthogadbnddmkdaaGreatzAv17
set_option linter.unusedSimpArgs false
set_option linter.unusedVariables false
set_option maxHeartbeats 4000000
set_option maxRecDepth 100000
namespace Go.Proofs.YthogadbnddmkdaaGreat
open Go.Av
attribute [go_sem] Bel_il3
def FX (P : Program) (f : FuncId) (args : List AV) (x3 : List (List (List Int))) (code : Int) : Prop :=
  ∀ H, ACalls P f args H fun r H' => ∃ ext v, H' = H ++ ext ∧ r = .tup [v, I code] ∧ OwnX H' (Btw H.length H'.length) v x3
theorem FX.lend {P : Program} {f : FuncId} {args args' : List AV} {x3 : List (List (List Int))} {code : Int} (h : FX P f args' x3 code) {H : List Blk} (hf : Frozs H args args') :
    ACalls P f args H fun r H' => ∃ ext v, H' = H ++ ext ∧ r = .tup [v, I code] ∧ OwnX H' (Btw H.length H'.length) v x3 := by
  refine ((h []).lend hf ?_).mono ?_
  · rintro r H0 ⟨ext, v, rfl, rfl, ho⟩
    exact .tup2 ho.ov (.I _)
  · rintro r H' ⟨r0, H0, ⟨ext, v, rfl, rfl, ho⟩, rfl, rfl⟩
    refine ⟨_, _, rfl, ?_, ho.sh (H := H) (N' := Btw H.length (H ++ _).length) (fun i hi => ?_)⟩
    · simp [sh_tup, sh_In]
    · unfold Btw at hi ⊢
      simp at hi ⊢; omega
end Go.Proofs.YthogadbnddmkdaaGreat
