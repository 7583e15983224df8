/- Partial squares: valid ones. -/
import Derived.Test.YtflnjgeoegofdaazQZ
import Derived.Test.YtflnjgeoegofdaazK19
import Derived.Test.YtflnjgeoegofdaazK18
import Derived.Test.YtflnjgeoegofdaazK6
set_option linter.unusedSimpArgs false
set_option linter.unusedVariables false
set_option maxHeartbeats 4000000
set_option maxRecDepth 100000
namespace Go.Proofs.Ytflnjgeoegofdaa
open Go.Av
@[go_sem] theorem slcS {H : List Blk} (K : AV → Prop) (xs : List Int) (z y : Int) (h0 : 0 ≤ z) (h1 : z ≤ y) (h2 : y ≤ xs.length) : SlcG 1 (ilS xs) z y H K (some (xs.length, xs.map I)) = K (ilS ((xs.drop z.toNat).take (y.toNat - z.toNat))) := slc_ilS 1 K xs z y h0 h1 h2
@[go_sem] theorem slc_ilSS {H : List Blk} (K : AV → Prop) (xs : List (List Int)) (z y : Int) (h0 : 0 ≤ z) (h1 : z ≤ y) (h2 : y ≤ xs.length) : SlcG 1 (ilSS xs) z y H K (some (xs.length, xs.map ilS)) = K (ilSS ((xs.drop z.toNat).take (y.toNat - z.toNat))) := by
  unfold ilSS
  rw [SlcG_il (h0 := h0) (h1 := h1) (h2 := h2)]
  simp only [Nat.mul_one, ← List.map_drop, ← List.map_take, List.length_take, List.length_drop]
  rw [Nat.min_eq_left (by omega)]
def cellAt (p : List (List Int)) (x y : Nat) : Int := (p.getD x []).getD y 0
end Go.Proofs.Ytflnjgeoegofdaa
