/- Valid designs: the program, the reference. -/
import Derived.Test.YtclfmfabcnbbpaaGreatzU1
import Derived.Test.YtclfmfabcnbbpaaGreatzK4
import Derived.Test.YtclfmfabcnbbpaaGreatzK6
import Derived.Test.YtclfmfabcnbbpaaGreatzK2
set_option linter.unusedSimpArgs false
set_option linter.unusedVariables false
set_option maxHeartbeats 4000000
set_option maxRecDepth 100000
namespace Go.Proofs.YtclfmfabcnbbpaaGreat
open Go.Av
theorem get_appU {H : List Blk} {p : Nat} {b : Blk} (h : H[p]? = some b) (ext : List Blk) : (H ++ ext)[p]? = some b:=by
 rw [List.getElem?_append_left (List.getElem?_eq_some_iff.1 h).1];exact h
end Go.Proofs.YtclfmfabcnbbpaaGreat