/- The law of SquareCover, as a computation. -/
import Derived.Test.YtnlfokkljgbaaaazL1
import Derived.Test.YtnlfokkljgbaaaazAvC
set_option linter.unusedSimpArgs false
set_option linter.unusedVariables false
set_option maxHeartbeats 4000000
set_option maxRecDepth 100000
namespace Go.Proofs.Ytnlfokkljgbaaaa
open Go.Av
theorem OwnSS.cell1 {H : List Blk} {N : Nat → Prop} {v : AV} {xss : List (List Int)} (h : OwnSS H N v xss) : v.cell1 = true ∧ partsOf v = [v] := by
  rcases h with ⟨t, ver, ty, cells, rfl, h⟩ | ⟨rfl, rfl | rfl⟩ <;> exact ⟨rfl, rfl⟩
end Go.Proofs.Ytnlfokkljgbaaaa
