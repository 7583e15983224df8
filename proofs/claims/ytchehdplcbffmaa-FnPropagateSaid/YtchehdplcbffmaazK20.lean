/- Pairs of points: how many blocks hold them. -/
import Derived.Test.YtchehdplcbffmaaProg
import Derived.KernelRfl
import Derived.Test.YtchehdplcbffmaazU1
import Derived.Test.YtchehdplcbffmaazL7
import Derived.Test.YtchehdplcbffmaazK1
import Derived.Test.YtchehdplcbffmaazK6
import Derived.Test.YtchehdplcbffmaazK2
import Derived.Test.YtchehdplcbffmaazK10
set_option linter.unusedSimpArgs false
set_option linter.unusedVariables false
set_option maxHeartbeats 4000000
set_option maxRecDepth 100000
namespace Go.Proofs.Ytchehdplcbffmaa
open Go.Av
def NewS (P : Program) (f : FuncId) (args : List AV) (xs : List Int) : Prop :=
  ∀ H, ACalls P f args H fun r H' => r = .nm H.length 0 0 xs.length ∧ H' = H ++ [⟨0, 2, 1, xs.map I⟩]
theorem NewS.newL {P : Program} {f : FuncId} {args : List AV} {xs : List Int} (h : NewS P f args xs) : NewL P f args xs := by
  intro H
  refine (h H).mono ?_
  rintro r H' ⟨rfl, rfl⟩
  exact newL_of (k := H.length) (ver := 0) (ty := 2) (xs := xs) (ext := [⟨0, 2, 1, xs.map I⟩]) (Nat.le_refl _) (by simp)
theorem NewS.pfn {P : Program} {f : FuncId} {args : List AV} {xs : List Int} (h : NewS P f args xs) : PFn P f args (ilS xs) := h.newL.pfn
theorem sqB_snoc (v w k : Nat) (xss : List (List Int)) (xs : List Int) : sqB v w k (xss ++ [xs]) = ⟨v, 33, 1, nmsV w (k + 1) xss ++ [.nm (k + 1 + xss.length) w 0 xs.length]⟩ :: (rowsV w xss ++ [⟨w, 2, 1, xs.map I⟩]) := by
  simp [sqB, nmsV_app, rowsV]
theorem getAt {L : List Blk} {j : Nat} (h : L.length = j) (b : Blk) (r : List Blk) : (L ++ b :: r)[j]? = some b := by subst h; simp
theorem setAt {L : List Blk} {j : Nat} (h : L.length = j) (b c : Blk) (r : List Blk) : (L ++ b :: r).set j c = L ++ c :: r := by subst h; simp
end Go.Proofs.Ytchehdplcbffmaa
