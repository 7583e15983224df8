/- The library's functions of this program: their contracts. -/
import Derived.Test.YtmdeibdplpodpaaGreatzS2
import Derived.Test.YtmdeibdplpodpaaGreatzS1
import Derived.Test.YtmdeibdplpodpaaGreatzS3
import Derived.Test.YtmdeibdplpodpaaGreatzLs
import Derived.Test.YtmdeibdplpodpaaGreatzSZ
set_option linter.unusedSimpArgs false
set_option linter.unusedVariables false
set_option maxHeartbeats 4000000
set_option maxRecDepth 100000
namespace Go.Sort
end Go.Sort
namespace Go.Proofs.YtmdeibdplpodpaaGreat
open Go.Shelf Go.RowKit Go.Lib Go.Sort Go.Av
abbrev n_SortLL : Nat := 79
abbrev n_DelL : Nat := 181
theorem sortLL_p : SortsP Tryz.prog n_SortLL := fun enc h1 cf hO g cb blk off cap d w eg hcmp hH hblk hsz => Any.slices_SortFunc Tryz.sortLL enc h1 cf hO g cb blk off cap d w eg hcmp hH hblk hsz
theorem sortLL_n : SortsN Tryz.prog n_SortLL := fun p cap fv w => AnyF.slices_SortFunc_none { Tryz.sortLL with } p cap fv w
theorem delL_some /- n_DelL -/ : (Tryz.prog.info? (Tryz.delL_ren.t 23)).isSome = true := by kernel_rfl
theorem delL_p : DelsI Tryz.prog n_DelL := fun blk off cap i j d w hH hc hm hij hj => AnyE.slices_Delete Tryz.delL (Value.int .i64) (fun _ => rfl) 0 (fun w => by kernel_rfl) ((Tryz.prog.info? (Tryz.delL_ren.t 23)).get delL_some) (Option.some_get _).symm (by kernel_rfl) blk off cap i j d w hH hc hm hij hj
end Go.Proofs.YtmdeibdplpodpaaGreat
