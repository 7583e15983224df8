/- The library's functions of this program: their contracts. -/
import Derived.Test.YtmdeibdplpodpaazS2
import Derived.Test.YtmdeibdplpodpaazS4
import Derived.Test.YtmdeibdplpodpaazS3
import Derived.Test.YtmdeibdplpodpaazLs
import Derived.Test.YtmdeibdplpodpaazSZ
set_option linter.unusedSimpArgs false
set_option linter.unusedVariables false
set_option maxHeartbeats 4000000
set_option maxRecDepth 100000
namespace Go.Sort
end Go.Sort
namespace Go.Proofs.Ytmdeibdplpodpaa
open Go.Shelf Go.RowKit Go.Lib Go.Sort Go.Av
abbrev n_SortLL : Nat := 70
theorem sortLL_p : SortsP Try.prog n_SortLL := fun enc h1 cf hO g cb blk off cap d w eg hcmp hH hblk hsz => Any.slices_SortFunc Try.sortLL enc h1 cf hO g cb blk off cap d w eg hcmp hH hblk hsz
theorem sortLL_n : SortsN Try.prog n_SortLL := fun p cap fv w => AnyF.slices_SortFunc_none { Try.sortLL with } p cap fv w
theorem sortRows_ok {H : List Blk} {N : Nat → Prop} {t ver ty : Nat} {cells : List AV} {xss : List (List Int)} (h : OwnC H N t ver ty cells xss) (hl : xss.length < 4611686018427387904) :
    ACalls Try.prog n_SortLL [.nm t ver 0 xss.length, .fn f_slices_Compare_Lint64_int64 []] H (fun r H' => r = .tup [] ∧ ∃ cells' yss, yss.Perm xss ∧ yss.Pairwise (fun a b => ¬ cmpL b a < 0) ∧ H' = H.set t ⟨ver, ty, 1, cells'⟩ ∧ OwnC H' N t ver ty cells' yss) :=
  OwnC.sort_ok sortLL_p sortLL_n slicesCompare_call cmpL cmpL_tot.swo slicesCompare_fn h hl
end Go.Proofs.Ytmdeibdplpodpaa
