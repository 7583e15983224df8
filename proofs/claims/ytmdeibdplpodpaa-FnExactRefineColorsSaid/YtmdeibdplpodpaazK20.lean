/- Pairs of points: how many blocks hold them. -/
import Derived.Test.YtmdeibdplpodpaazK19
import Derived.Test.YtmdeibdplpodpaazK10
set_option linter.unusedSimpArgs false
set_option linter.unusedVariables false
set_option maxHeartbeats 4000000
set_option maxRecDepth 100000
namespace Go.Proofs.Ytmdeibdplpodpaa
open Go.Av
def NewS (P : Program) (f : FuncId) (args : List AV) (xs : List Int) : Prop :=
  ∀ H, ACalls P f args H fun r H' => r = .nm H.length 0 0 xs.length ∧ H' = H ++ [⟨0, 2, 1, xs.map I⟩]
theorem NewS.newL {P : Program} {f : FuncId} {args : List AV} {xs : List Int} (h : NewS P f args xs) : NewL P f args xs := by
  intro H
  refine (h H).mono ?_
  rintro r H' ⟨rfl, rfl⟩
  exact newL_of (k := H.length) (ver := 0) (ty := 2) (xs := xs) (ext := [⟨0, 2, 1, xs.map I⟩]) (Nat.le_refl _) (by simp)
theorem NewS.pfn {P : Program} {f : FuncId} {args : List AV} {xs : List Int} (h : NewS P f args xs) : PFn P f args (ilS xs) := h.newL.pfn
end Go.Proofs.Ytmdeibdplpodpaa
