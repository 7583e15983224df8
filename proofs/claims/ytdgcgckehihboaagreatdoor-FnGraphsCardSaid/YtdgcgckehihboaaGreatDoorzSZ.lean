/- The library's sorting of numbers: its contract. -/
import Derived.Test.YtdgcgckehihboaaGreatDoorzS1
import Derived.Test.YtdgcgckehihboaaGreatDoorzLs
set_option linter.unusedSimpArgs false
set_option linter.unusedVariables false
set_option linter.unusedSectionVars false
set_option maxHeartbeats 4000000
set_option maxRecDepth 100000
namespace Go.Sort
variable [Go.Av.DoorC]
end Go.Sort
namespace Go.Proofs.YtdgcgckehihboaaGreatDoor
variable [Go.Av.DoorC]
open Go.Shelf Go.RowKit Go.Lib Go.Sort Go.Av
abbrev n_SortL : Nat := 52
theorem sortL_p : SortsI Tryz.prog n_SortL := fun blk off cap zs w hH hb hl => AnyM.slices_Sort_int Tryz.sortL blk off cap zs w hH hb hl
theorem sortL_n : SortsIN Tryz.prog n_SortL := fun p cap w => AnyM.slices_Sort_int_none Tryz.sortL p cap w
end Go.Proofs.YtdgcgckehihboaaGreatDoor
