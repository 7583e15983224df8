/- Lists of rows that grow by rows grown elsewhere; what every memory holds. -/
import Derived.Test.YtchehdplcbffmaazK1
import Derived.Test.YtchehdplcbffmaazL3
set_option linter.unusedSimpArgs false
set_option linter.unusedVariables false
set_option maxHeartbeats 4000000
set_option maxRecDepth 100000
namespace Go.Proofs.Ytchehdplcbffmaa
open Go.Av
theorem SW.hb {P : Program} {n k0 : Nat} {Q : SX → Env → List Blk → Prop} {E : Env} {H : List Blk} {c : SC} (h : HB H → SW P n k0 c Q E H) : SW P n k0 c Q E H :=
  fun code hc cx F m a w hn h0 hs => h hs.sim.bel code hc cx F m a w hn h0 hs
end Go.Proofs.Ytchehdplcbffmaa
