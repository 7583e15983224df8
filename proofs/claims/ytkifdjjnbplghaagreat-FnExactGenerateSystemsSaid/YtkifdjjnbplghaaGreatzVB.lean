/- Groups of permutations: searched for; valid groups in the program. Groups of permutations: valid groups in the program. Groups of permutations: the closure in the reference. Groups of permutations: valid groups in the reference. Groups of permutations: valid groups in the reference, all told. -/
import Derived.Test.YtkifdjjnbplghaaGreatzL8
import Derived.Test.YtkifdjjnbplghaaGreatProg
import Derived.KernelRfl
import Derived.Test.YtkifdjjnbplghaaGreatzVA
import Derived.Test.YtkifdjjnbplghaaGreatzK18
import Derived.Test.YtkifdjjnbplghaaGreatzK19
import Derived.Test.YtkifdjjnbplghaaGreatzU1
import Derived.Test.YtkifdjjnbplghaaGreatzK8
import Derived.Test.YtkifdjjnbplghaaGreatzS5
import Derived.Test.YtkifdjjnbplghaaGreatzK2
import Derived.Test.YtkifdjjnbplghaaGreatzK6
import Derived.Test.YtkifdjjnbplghaaGreatzL4
import Derived.Test.YtkifdjjnbplghaaGreatzK1
import Derived.Test.YtkifdjjnbplghaaGreatzL3
set_option linter.unusedSimpArgs false
set_option linter.unusedVariables false
set_option maxHeartbeats 4000000
set_option maxRecDepth 100000
namespace Go.Proofs.YtkifdjjnbplghaaGreat
open Go.Av
abbrev f_spec_l00Own : Nat := 96
def c_spec_l00Own : SC :=
 .seq (.reg [
     ⟨(some 2), .mv (.const (.slice none 0 0)), none⟩] [0])
 (.seq (.reg [
     ⟨(some 3), .bslice 2 1 0 [] [], none⟩,
     ⟨(some 4), .mv (.tmp 0), none⟩,
     ⟨(some 5), .app 2 1 8 (.tmp 3) (.tmp 4), none⟩,
     ⟨(some 2), .mv (.tmp 5), none⟩] [2])
 (.ret))
theorem s_spec_l00Own : stripF Tryz.prog 96 [[0], [2]] = some (c_spec_l00Own, [.tmp 2], 6) := by kernel_rfl
end Go.Proofs.YtkifdjjnbplghaaGreat
namespace Go.Proofs.YtkifdjjnbplghaaGreat
open Go.Av
end Go.Proofs.YtkifdjjnbplghaaGreat
namespace Go.Proofs.YtkifdjjnbplghaaGreat
open Go.Av
end Go.Proofs.YtkifdjjnbplghaaGreat
namespace Go.Proofs.YtkifdjjnbplghaaGreat
open Go.Av
end Go.Proofs.YtkifdjjnbplghaaGreat
namespace Go.Proofs.YtkifdjjnbplghaaGreat
open Go.Av
end Go.Proofs.YtkifdjjnbplghaaGreat
