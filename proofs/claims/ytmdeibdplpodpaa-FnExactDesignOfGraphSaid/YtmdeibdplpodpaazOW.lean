/- Copies of lists, frozen. -/
import Derived.Test.YtmdeibdplpodpaaProg
import Derived.KernelRfl
import Derived.Test.YtmdeibdplpodpaazU1
import Derived.Test.YtmdeibdplpodpaazM2
set_option linter.unusedSimpArgs false
set_option linter.unusedVariables false
set_option maxHeartbeats 4000000
set_option maxRecDepth 100000
namespace Go.Av
end Go.Av
namespace Go.Proofs.Ytmdeibdplpodpaa
open Go.Av
abbrev f_spec_l00Own : Nat := 76
def c_spec_l00Own : SC :=
 .seq (.reg [
     ⟨(some 2), .mv (.const (.slice none 0 0)), none⟩] [0])
 (.seq (.reg [
     ⟨(some 3), .bslice 2 1 0 [] [], none⟩,
     ⟨(some 4), .mv (.tmp 0), none⟩,
     ⟨(some 5), .app 2 1 8 (.tmp 3) (.tmp 4), none⟩,
     ⟨(some 2), .mv (.tmp 5), none⟩] [2])
 (.ret))
theorem s_spec_l00Own : stripF Try.prog 76 [[0], [2]] = some (c_spec_l00Own, [.tmp 2], 6) := by kernel_rfl
abbrev tyLL : Nat := 22
end Go.Proofs.Ytmdeibdplpodpaa
