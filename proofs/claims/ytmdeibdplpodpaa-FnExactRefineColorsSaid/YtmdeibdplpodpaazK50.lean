/- Affine maps as groups: both ways. -/
import Derived.Test.YtmdeibdplpodpaazOW
import Derived.Test.YtmdeibdplpodpaazS5
import Derived.Test.YtmdeibdplpodpaazG1
import Derived.Test.YtmdeibdplpodpaazU1
import Derived.Test.YtmdeibdplpodpaazM2
import Derived.Test.YtmdeibdplpodpaazK2
set_option linter.unusedSimpArgs false
set_option linter.unusedVariables false
set_option maxHeartbeats 4000000
set_option maxRecDepth 100000
namespace Go.Proofs.Ytmdeibdplpodpaa
open Go.Av
def BxT (ty : Nat) (Hb : List Blk) (p : Nat) (hd : AV) (xss : List (List Int)) (H' : List Blk) : Prop :=
  ∃ v, H'[p]? = some ⟨0, ty, 1, [hd, v]⟩ ∧ GrowSS H' (p + 1) tyLL v xss ∧ p + 1 ≤ H'.length ∧ ∀ j, j < p → H'[j]? = Hb[j]?
theorem BxT.put {ty : Nat} {Hb H3 : List Blk} {p : Nat} {hd v3 : AV} {xss : List (List Int)} (d1 : GrowSS H3 (p + 1) tyLL v3 xss) (d2 : p + 1 ≤ H3.length) (d3 : ∀ j, j < p → H3[j]? = Hb[j]?) : BxT ty Hb p hd xss (H3.set p ⟨0, ty, 1, [hd, v3]⟩) := by
  refine ⟨v3, List.getElem?_set_self (by omega), d1.same (fun j b h1 h2 => ?_), by simpa using d2, fun j hj => ?_⟩
  · rw [List.getElem?_set_ne (by omega)]; exact h2
  · rw [List.getElem?_set_ne (by omega)]; exact d3 j hj
end Go.Proofs.Ytmdeibdplpodpaa
