/- Rounds that freeze. -/
import Derived.Test.YtdgcgckehihboaaDoorU1
set_option linter.unusedSimpArgs false
set_option linter.unusedVariables false
set_option maxHeartbeats 4000000
set_option maxRecDepth 100000
namespace Go.Proofs.YtdgcgckehihboaaDoor
open Go.Av

/-- The end of a round: what lies behind is told by its content. -/
theorem SLoop.nextFz {k0 : Nat} {live : List Nat} {I' : Nat → Env → List Blk → Prop} {k : Nat} {Q : SX → Env → List Blk → Prop} {E : Env} {H ext : List Blk} (k' : Nat) (E' : Env) (hB : HB H) (h0 : k0 ≤ H.length) (hk : k' < k)
    (hE : RE (H ++ ext) H.length [] (keep live E) E') (hI : I' k' E' H) : SLoop k0 live I' k Q .nrm E (H ++ ext) := ⟨k', E', H, hk, Gh.froz h0 hB (fun j => hE.get j), hI⟩
end Go.Proofs.YtdgcgckehihboaaDoor
