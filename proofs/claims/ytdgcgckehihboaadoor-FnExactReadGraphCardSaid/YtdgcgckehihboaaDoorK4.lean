/- Arguments copied and compared, as computations. -/
import Derived.Test.YtdgcgckehihboaaDoorL7
import Derived.Test.YtdgcgckehihboaaDoorK1
set_option linter.unusedSimpArgs false
set_option linter.unusedVariables false
set_option maxHeartbeats 4000000
set_option maxRecDepth 100000
namespace Go.Proofs.YtdgcgckehihboaaDoor
open Go.Av

theorem eqInt64S_fn2 (xs : List Int) : PFn Tryd.prog f_laws_eqInt64S [ilS xs, ilS xs] (Bv true) := fun H => by
  simpa using eqInt64S_ok H _ _ xs xs (rd_ilS _ _) (rd_ilS _ _)
end Go.Proofs.YtdgcgckehihboaaDoor
