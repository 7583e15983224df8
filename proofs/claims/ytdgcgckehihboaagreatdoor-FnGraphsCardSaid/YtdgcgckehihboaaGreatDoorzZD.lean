/- Graphs read: the reference. -/
import Derived.Test.YtdgcgckehihboaaGreatDoorzZE
import Derived.Test.YtdgcgckehihboaaGreatDoorzR2
import Derived.Test.YtdgcgckehihboaaGreatDoorzE4
set_option linter.unusedSimpArgs false
set_option linter.unusedVariables false
set_option linter.unusedSectionVars false
set_option maxHeartbeats 4000000
set_option maxRecDepth 100000
namespace Go.Av
variable [Go.Av.DoorC] [Go.Proofs.YtdgcgckehihboaaGreatDoor.DoorT]
theorem SW.keepZ {P : Program} {n k0 : Nat} {Q : SX → Env → List Blk → Prop} {E : Env} {H : List Blk} {c : SC} (ks : List Nat) (h : Go.Av.SW P n k0 c Q (keep ks E) H) : Go.Av.SW P n k0 c Q E H :=
  SW.ghost (fun _ F m _ _ _ hs => ⟨F, m, hs.keep ks⟩) h
end Go.Av
namespace Go.Proofs.YtdgcgckehihboaaGreatDoor
variable [Go.Av.DoorC] [Go.Proofs.YtdgcgckehihboaaGreatDoor.DoorT]
open Go.Av
def rgV (o : Option (List Int × List (Int × Int))) : AV := .tup [.agg [ilS (o.getD ([], [])).1, ilE (o.getD ([], [])).2], Bv o.isSome]
end Go.Proofs.YtdgcgckehihboaaGreatDoor
