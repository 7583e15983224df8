/- The library's sorting of numbers: its contract. -/
import Derived.Test.YtflnjgeoegofdaazS4
import Derived.Test.YtflnjgeoegofdaazLs
set_option linter.unusedSimpArgs false
set_option linter.unusedVariables false
set_option maxHeartbeats 4000000
set_option maxRecDepth 100000
namespace Go.Sort
end Go.Sort
namespace Go.Proofs.Ytflnjgeoegofdaa
open Go.Shelf Go.RowKit Go.Lib Go.Sort Go.Av
abbrev n_SortL : Nat := 39
theorem sortL_p : SortsI Try.prog n_SortL := fun blk off cap zs w hH hb hl => AnyM.slices_Sort_int Try.sortL blk off cap zs w hH hb hl
theorem sortL_n : SortsIN Try.prog n_SortL := fun p cap w => AnyM.slices_Sort_int_none Try.sortL p cap w
end Go.Proofs.Ytflnjgeoegofdaa
