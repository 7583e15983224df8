/- KramerMesner: the program. -/
import Derived.Test.YtkifdjjnbplghaaGreatProg
import Derived.KernelRfl
import Derived.Test.YtkifdjjnbplghaaGreatzY6
import Derived.Test.YtkifdjjnbplghaaGreatzYB
import Derived.Test.YtkifdjjnbplghaaGreatzY7
set_option linter.unusedSimpArgs false
set_option linter.unusedVariables false
set_option maxHeartbeats 4000000
set_option maxRecDepth 100000
namespace Go.Proofs.YtkifdjjnbplghaaGreat
open Go.Av
theorem soV_sets0 {n : Int} {els : List (List Int)} {k : Int} (h : askV n els k = 0) : ∀ R ∈ orbsV n els k, R ≠ [] ∧ R.length ≤ 720 := by
  obtain ⟨hg, k0, k1, hc, en, ek⟩ := askV_zero h
  intro R hR
  unfold orbsV at hR
  exact orbL_rows hg.2.1.1 hg.2.1.2 _ R hR
theorem subsetOrbits_pf {n : Int} {els : List (List Int)} {k : Int} (h : askV n els k = 0) : PFn Tryz.prog f_impl_subsetOrbits [.agg [I n, ilSS els], I k] (il3 (orbsV n els k)) := by
  obtain ⟨hg, k0, k1, hc, en, ek⟩ := askV_zero h
  have hs := subsetOrbits_fn n.toNat k.toNat els (by have := hg.1; omega) hg.2.1.1 hg.2.1.2 (hg.2.2.1) (by omega) hc
  rw [← en, ← ek] at hs
  exact hs
end Go.Proofs.YtkifdjjnbplghaaGreat
