/- Marks over a list of the call's own; nothing handed back. -/
import Derived.Test.YtnlfokkljgbaaaazL7
import Derived.Test.YtnlfokkljgbaaaazAv17
set_option linter.unusedSimpArgs false
set_option linter.unusedVariables false
set_option maxHeartbeats 4000000
set_option maxRecDepth 100000
namespace Go.Proofs.Ytnlfokkljgbaaaa
open Go.Av
theorem nilFS1 {H : List Blk} {ext : List Blk} {code : Int} : ∃ ext' v t, H ++ ext = H ++ ext' ∧ AV.tup [nilS, I code] = .tup [v, I code] ∧ OwnS (H ++ ext) (Btw H.length (H ++ ext).length) t v [] ∧ t = (H ++ ext).length := ⟨ext, nilS, _, rfl, rfl, .inr ⟨rfl, .inl rfl⟩, rfl⟩
end Go.Proofs.Ytnlfokkljgbaaaa
