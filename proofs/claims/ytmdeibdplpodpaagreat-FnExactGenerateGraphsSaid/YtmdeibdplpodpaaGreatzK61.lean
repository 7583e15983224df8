/- Slices of lists, rounds that freeze. -/
import Derived.Test.YtmdeibdplpodpaaGreatzK60
import Derived.Test.YtmdeibdplpodpaaGreatzK20
import Derived.Test.YtmdeibdplpodpaaGreatzU1
import Derived.Test.YtmdeibdplpodpaaGreatzS5
import Derived.Test.YtmdeibdplpodpaaGreatzT0
import Derived.Test.YtmdeibdplpodpaaGreatzNF
set_option linter.unusedSimpArgs false
set_option linter.unusedVariables false
set_option maxHeartbeats 4000000
set_option maxRecDepth 100000
namespace Go.Proofs.YtmdeibdplpodpaaGreat
open Go.Av
@[go_sem] theorem slcSB {H : List Blk} (K : AV → Prop) (xs : List Int) (z y : Int) (h0 : 0 ≤ z) (h1 : z ≤ y) (h2 : y ≤ xs.length) : SlcG 1 (ilS xs) z y H K (some (xs.length, xs.map I)) = K (ilS ((xs.drop z.toNat).take (y.toNat - z.toNat))) := slc_ilS 1 K xs z y h0 h1 h2
end Go.Proofs.YtmdeibdplpodpaaGreat
