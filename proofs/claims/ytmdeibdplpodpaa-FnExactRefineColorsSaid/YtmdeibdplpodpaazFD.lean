/- Designs with some blocks, sorted: memory of the call's own. -/
import Derived.Test.YtmdeibdplpodpaaProg
import Derived.KernelRfl
import Derived.Test.YtmdeibdplpodpaazG1
import Derived.Test.YtmdeibdplpodpaazK50
import Derived.Test.YtmdeibdplpodpaazK8
import Derived.Test.YtmdeibdplpodpaazM2
import Derived.Test.YtmdeibdplpodpaazS3
import Derived.Test.YtmdeibdplpodpaazS5
import Derived.Test.YtmdeibdplpodpaazK18
import Derived.Test.YtmdeibdplpodpaazAv17
set_option linter.unusedSimpArgs false
set_option linter.unusedVariables false
set_option maxHeartbeats 4000000
set_option maxRecDepth 100000
namespace Go.Proofs.Ytmdeibdplpodpaa
open Go.Av
def FDs (P : Program) (f : FuncId) (args : List AV) (n : Int) (xss : List (List Int)) (code : Int) : Prop :=
  ∀ H, ACalls P f args H fun r H' => ∃ ext v, H' = H ++ ext ∧ r = .tup [.agg [I n, v], I code] ∧ OwnSS H' (Btw H.length H'.length) v xss
theorem FDs.lend {P : Program} {f : FuncId} {args args' : List AV} {n : Int} {xss : List (List Int)} {code : Int} (h : FDs P f args' n xss code) {H : List Blk} (hf : Frozs H args args') :
    ACalls P f args H fun r H' => ∃ ext v, H' = H ++ ext ∧ r = .tup [.agg [I n, v], I code] ∧ OwnSS H' (Btw H.length H'.length) v xss := by
  refine ((h []).lend hf ?_).mono ?_
  · rintro r H0 ⟨ext, v, rfl, rfl, ho⟩
    exact .tup2 (.agg _ (by intro c hc; simp at hc; rcases hc with rfl | rfl; exact .I _; exact ho.ov)) (.I _)
  · rintro r H' ⟨r0, H0, ⟨ext, v, rfl, rfl, ho⟩, rfl, rfl⟩
    refine ⟨_, _, rfl, ?_, ho.sh (H := H) (N' := Btw H.length (H ++ _).length) (fun i hi => ?_)⟩
    · simp [sh_tup, sh_agg, sh_In]
    · unfold Btw at hi ⊢
      simp at hi ⊢; omega
end Go.Proofs.Ytmdeibdplpodpaa
