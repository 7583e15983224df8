/- Transversals: the program's search. -/
import Derived.Test.YtnlfokkljgbaaaazUF
import Derived.Test.YtnlfokkljgbaaaazK31
import Derived.Test.YtnlfokkljgbaaaazK1
set_option linter.unusedSimpArgs false
set_option linter.unusedVariables false
set_option maxHeartbeats 4000000
set_option maxRecDepth 100000
namespace Go.Proofs.Ytnlfokkljgbaaaa
open Go.Av
theorem slcNT {H : List Blk} {K : AV → Prop} {r v l n : Nat} {y : Int} {cells : List AV} (hs : (H[r]?).map Blk.sz = some 1) (h0 : 0 ≤ y) (h1 : y ≤ n) : SlcG 1 (.nm r v 0 l) 0 y H K (some (n, cells)) = K (.nm r v 0 y.toNat) := by
  simp only [SlcG, if_true]
  refine propext ⟨fun h => h.2.2.2.2, fun h => ⟨by omega, h0, h1, ?_, h⟩⟩
  intro i ver off len he
  cases he
  exact hs
theorem FcallW.row {P : Program} {f : FuncId} {args : List AV} {X : List Blk} {xs : List Int} {K : AV → List Blk → Prop}
    (h : ACalls P f args X (fun r H' => ∃ ver, r = .nm X.length ver 0 xs.length ∧ H' = X ++ [⟨ver, 2, 1, xs.map I⟩]))
    (hk : ∀ ver, K (.nm X.length ver 0 xs.length) (X ++ [⟨ver, 2, 1, xs.map I⟩])) : FcallW P f args X K := by
  refine h.mono ?_
  rintro r H' ⟨ver, rfl, rfl⟩
  exact ⟨hk ver, _, rfl⟩
end Go.Proofs.Ytnlfokkljgbaaaa
