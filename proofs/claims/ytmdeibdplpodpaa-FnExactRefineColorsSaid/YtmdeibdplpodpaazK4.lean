/- Arguments copied and compared, as computations. -/
import Derived.Test.YtmdeibdplpodpaazL2
import Derived.Test.YtmdeibdplpodpaazK1
set_option linter.unusedSimpArgs false
set_option linter.unusedVariables false
set_option maxHeartbeats 4000000
set_option maxRecDepth 100000
namespace Go.Proofs.Ytmdeibdplpodpaa
open Go.Av
theorem toInt64S_fn (xs : List Int) (hs : xs.length ≤ 1073741824) : PFn Try.prog f_laws_toInt64S [ilS xs] (ilS xs) := by
  intro H
  refine (toInt64S_ok H _ xs (rd_ilS _ _) hs).gr ?_
  rintro r H' ⟨rfl, rfl⟩
  exact GR.froz (froz_row (ver := 0) (ty := 2) (Nat.le_refl _) (by simp)) ⟨rfl, rfl⟩
end Go.Proofs.Ytmdeibdplpodpaa
