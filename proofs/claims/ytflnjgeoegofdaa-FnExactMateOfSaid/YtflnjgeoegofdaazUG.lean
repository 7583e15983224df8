/- Transversals: the program's search. -/
import Derived.Test.YtflnjgeoegofdaazUF
import Derived.Test.YtflnjgeoegofdaazK31
import Derived.Test.YtflnjgeoegofdaazK1
set_option linter.unusedSimpArgs false
set_option linter.unusedVariables false
set_option maxHeartbeats 4000000
set_option maxRecDepth 100000
namespace Go.Proofs.Ytflnjgeoegofdaa
open Go.Av
theorem FcallW.row {P : Program} {f : FuncId} {args : List AV} {X : List Blk} {xs : List Int} {K : AV → List Blk → Prop}
    (h : ACalls P f args X (fun r H' => ∃ ver, r = .nm X.length ver 0 xs.length ∧ H' = X ++ [⟨ver, 2, 1, xs.map I⟩]))
    (hk : ∀ ver, K (.nm X.length ver 0 xs.length) (X ++ [⟨ver, 2, 1, xs.map I⟩])) : FcallW P f args X K := by
  refine h.mono ?_
  rintro r H' ⟨ver, rfl, rfl⟩
  exact ⟨hk ver, _, rfl⟩
end Go.Proofs.Ytflnjgeoegofdaa
