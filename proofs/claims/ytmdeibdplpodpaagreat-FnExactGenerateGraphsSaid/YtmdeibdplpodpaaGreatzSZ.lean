/- The library's sorting of numbers: its contract. -/
import Derived.Test.YtmdeibdplpodpaaGreatzS1
import Derived.Test.YtmdeibdplpodpaaGreatzLs
set_option linter.unusedSimpArgs false
set_option linter.unusedVariables false
set_option maxHeartbeats 4000000
set_option maxRecDepth 100000
namespace Go.Sort
end Go.Sort
namespace Go.Proofs.YtmdeibdplpodpaaGreat
open Go.Shelf Go.RowKit Go.Lib Go.Sort Go.Av
abbrev n_SortL : Nat := 182
theorem sortL_p : SortsI Tryz.prog n_SortL := fun blk off cap zs w hH hb hl => AnyM.slices_Sort_int Tryz.sortL blk off cap zs w hH hb hl
theorem sortL_n : SortsIN Tryz.prog n_SortL := fun p cap w => AnyM.slices_Sort_int_none Tryz.sortL p cap w
end Go.Proofs.YtmdeibdplpodpaaGreat
