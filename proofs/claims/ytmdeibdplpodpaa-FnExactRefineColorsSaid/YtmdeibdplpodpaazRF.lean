/- DesignOfGraph: the reference. -/
import Derived.Test.YtmdeibdplpodpaaProg
import Derived.KernelRfl
import Derived.Test.YtmdeibdplpodpaazRD
import Derived.Test.YtmdeibdplpodpaazOW
import Derived.Test.YtmdeibdplpodpaazS3
import Derived.Test.YtmdeibdplpodpaazL8
import Derived.Test.YtmdeibdplpodpaazK2
import Derived.Test.YtmdeibdplpodpaazK20
import Derived.Test.YtmdeibdplpodpaazK4
import Derived.Test.YtmdeibdplpodpaazL2
import Derived.Test.YtmdeibdplpodpaazU1
set_option linter.unusedSimpArgs false
set_option linter.unusedVariables false
set_option maxHeartbeats 4000000
set_option maxRecDepth 100000
namespace Go.Proofs.Ytmdeibdplpodpaa
open Go.Av
theorem ren_of_frozR {H : List Blk} {b : Nat} {a a' : AV} (h : Froz H b a a') : Ren H b [] a a' := by
  induction h with
  | old c h => exact .old c h
  | nil => exact .nilF
  | nm i ver off len kb cs hb hk hv hl _ ih => exact .fz i ver off len kb cs hb (by simp) hk hv hl ih
  | agg cs cs' hl _ ih => exact .agg cs cs' hl ih
  | tup cs cs' hl _ ih => exact .tup cs cs' hl ih
end Go.Proofs.Ytmdeibdplpodpaa
