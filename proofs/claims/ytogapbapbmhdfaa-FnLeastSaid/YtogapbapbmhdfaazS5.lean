/- The library's functions of this program: their contracts. -/
import Derived.Test.YtogapbapbmhdfaazS2
import Derived.Test.YtogapbapbmhdfaazS4
import Derived.Test.YtogapbapbmhdfaazS3
import Derived.Test.YtogapbapbmhdfaazLs
set_option linter.unusedSimpArgs false
set_option linter.unusedVariables false
set_option maxHeartbeats 4000000
set_option maxRecDepth 100000
namespace Go.Proofs.Ytogapbapbmhdfaa
open Go.Shelf Go.RowKit Go.Lib Go.Sort Go.Av
abbrev n_SortLL : Nat := 90
abbrev n_SortL : Nat := 85
abbrev n_DelL : Nat := 106
theorem sortLL_p : SortsP Try.prog n_SortLL := fun enc h1 cf hO g cb blk off cap d w eg hcmp hH hblk hsz => Any.slices_SortFunc Try.sortLL enc h1 cf hO g cb blk off cap d w eg hcmp hH hblk hsz
theorem sortLL_n : SortsN Try.prog n_SortLL := fun p cap fv w => AnyF.slices_SortFunc_none { Try.sortLL with } p cap fv w
theorem sortL_p : SortsI Try.prog n_SortL := fun blk off cap zs w hH hb hl => AnyM.slices_Sort_int Try.sortL blk off cap zs w hH hb hl
theorem sortL_n : SortsIN Try.prog n_SortL := fun p cap w => AnyM.slices_Sort_int_none Try.sortL p cap w
theorem delL_some : (Try.prog.info? (Try.delL_ren.t 23)).isSome = true := by kernel_rfl
theorem delL_p : DelsI Try.prog n_DelL := fun blk off cap i j d w hH hc hm hij hj => AnyE.slices_Delete Try.delL (Value.int .i64) (fun _ => rfl) 0 (fun w => by kernel_rfl) ((Try.prog.info? (Try.delL_ren.t 23)).get delL_some) (Option.some_get _).symm (by kernel_rfl) blk off cap i j d w hH hc hm hij hj
end Go.Proofs.Ytogapbapbmhdfaa
