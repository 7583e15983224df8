/- Calls that return rows of their own and a code. -/
import Derived.Test.YtogapbapbmhdfaazL7
import Derived.Test.YtogapbapbmhdfaazK1
import Derived.Test.YtogapbapbmhdfaazAv17
import Derived.Test.YtogapbapbmhdfaazL3
set_option linter.unusedSimpArgs false
set_option linter.unusedVariables false
set_option maxHeartbeats 4000000
set_option maxRecDepth 100000
namespace Go.Proofs.Ytogapbapbmhdfaa
open Go.Av
def FSS (P : Program) (f : FuncId) (args : List AV) (xss : List (List Int)) (code : Int) : Prop :=
  ∀ H, ACalls P f args H fun r H' => ∃ ext v, H' = H ++ ext ∧ r = .tup [v, I code] ∧ OwnSS H' (Btw H.length H'.length) v xss
theorem nilFSS0 {H : List Blk} {code : Int} : ∃ ext' v, H = H ++ ext' ∧ AV.tup [nilS, I code] = .tup [v, I code] ∧ OwnSS H (Btw H.length H.length) v [] := ⟨[], nilS, by simp, rfl, .inr ⟨rfl, .inl rfl⟩⟩
theorem OwnSS.oneU {H : List Blk} {N : Nat → Prop} {v : AV} {xss : List (List Int)} (h : OwnSS H N v xss) : v.cell1 = true ∧ partsOf v = [v] := by
  rcases h with ⟨t, ver, ty, cells, rfl, h⟩ | ⟨rfl, rfl | rfl⟩ <;> exact ⟨rfl, rfl⟩
end Go.Proofs.Ytogapbapbmhdfaa
