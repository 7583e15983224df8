/- Options with an item. -/
import Derived.Test.YtclfmfabcnbbpaaGreatzM1
import Derived.Test.YtclfmfabcnbbpaaGreatzK6
set_option linter.unusedSimpArgs false
set_option linter.unusedVariables false
set_option maxHeartbeats 4000000
set_option maxRecDepth 100000
namespace Go.Proofs.YtclfmfabcnbbpaaGreat
open Go.Av
theorem get_appB2 {H : List Blk} {p : Nat} {b : Blk} (h : H[p]? = some b) (ext : List Blk) : (H ++ ext)[p]? = some b:=by
 rw [List.getElem?_append_left (List.getElem?_eq_some_iff.1 h).1];exact h
theorem OwnSS.one {H : List Blk} {N : Nat → Prop} {v : AV} {xss : List (List Int)} (h : OwnSS H N v xss) : v.cell1 = true ∧ partsOf v = [v]:=by
 rcases h with ⟨t,ver,ty,cells,rfl,h⟩|⟨rfl,rfl|rfl⟩ <;> exact ⟨rfl,rfl⟩
end Go.Proofs.YtclfmfabcnbbpaaGreat