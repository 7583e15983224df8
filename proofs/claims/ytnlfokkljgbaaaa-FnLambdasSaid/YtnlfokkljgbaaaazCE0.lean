/- Some blocks are kept, all else is told by content. -/
import Derived.Test.YtnlfokkljgbaaaazU1
set_option linter.unusedSimpArgs false
set_option linter.unusedVariables false
set_option maxHeartbeats 4000000
set_option maxRecDepth 100000
namespace Go.Proofs.Ytnlfokkljgbaaaa
open Go.Av
theorem SW.renK {P : Program} {n k0 : Nat} {c : SC} {Q : SX → Env → List Blk → Prop} {E E' : Env} {H ext H2 : List Blk} {js : List (Option Nat)} (hB : HB H) (h0 : k0 ≤ H.length) (ho : RenOk (H ++ ext) H.length js H2) (hE : RE (H ++ ext) H.length js E E') (hk : Av.SW P n k0 c Q E' (H ++ H2)) : Av.SW P n k0 c Q E (H ++ ext) :=
  Av.SW.ghost (by
    have g := Gh.ren (k0 := k0) (k := H.length) (H2 := H2) h0 (by simp) ho (by rw [List.take_left]; exact hB) (fun j => hE.get j)
    rw [List.take_left] at g
    exact g) hk
end Go.Proofs.Ytnlfokkljgbaaaa
