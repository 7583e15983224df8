/- Graphs compared and told by other vertices: the program. -/
import Derived.Test.YtmdeibdplpodpaaProg
import Derived.KernelRfl
import Derived.Test.YtmdeibdplpodpaazR2
import Derived.Test.YtmdeibdplpodpaazL8
import Derived.Test.YtmdeibdplpodpaazK8
import Derived.Test.YtmdeibdplpodpaazK18
import Derived.Test.YtmdeibdplpodpaazK19
import Derived.Test.YtmdeibdplpodpaazU1
import Derived.Test.YtmdeibdplpodpaazSZ
import Derived.Test.YtmdeibdplpodpaazQZ
import Derived.Test.YtmdeibdplpodpaazE3
import Derived.Test.YtmdeibdplpodpaazE4
set_option linter.unusedSimpArgs false
set_option linter.unusedVariables false
set_option maxHeartbeats 4000000
set_option maxRecDepth 100000
namespace Go.Proofs.Ytmdeibdplpodpaa
open Go.Av
theorem ext_ofR {H H1 : List Blk} (hl : H.length ≤ H1.length) (hs : ∀ j, j < H.length → H1[j]? = H[j]?) : ∃ ext, H1 = H ++ ext := by
  refine ⟨H1.drop H.length, ?_⟩
  have e : H1.take H.length = H := by
    refine List.ext_getElem? fun j => ?_
    rw [List.getElem?_take]
    split
    · exact hs j (by assumption)
    · rw [List.getElem?_eq_none (by omega)]
  conv => rhs; rw [← e]
  rw [List.length_take, Nat.min_eq_left hl, List.take_append_drop]
end Go.Proofs.Ytmdeibdplpodpaa
namespace Go.Proofs.Ytmdeibdplpodpaa
open Go.Av
theorem OwnE.frozR {H : List Blk} {N : Nat → Prop} {b : Nat} {c : AV} {es : List (Int × Int)} (h : OwnE H N c es) (hN : ∀ r, N r → b ≤ r) : Froz H b c (ilE es) := by
  rcases h with ⟨r, ver, ty, rfl, h1, h2⟩ | ⟨rfl, rfl | rfl⟩
  · exact froz_edges (hN _ h1) h2
  · exact .nil
  · exact .old _ (show Bel b (ilE []) from Bel_ilE b [])
end Go.Proofs.Ytmdeibdplpodpaa
