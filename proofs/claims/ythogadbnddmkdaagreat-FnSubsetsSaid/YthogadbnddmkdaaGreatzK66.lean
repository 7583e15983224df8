/- Permutations by rank: both ways. -/
import Derived.Test.YthogadbnddmkdaaGreatProg
import Derived.KernelRfl
import Derived.Test.YthogadbnddmkdaaGreatzOW
import Derived.Test.YthogadbnddmkdaaGreatzK61
import Derived.Test.YthogadbnddmkdaaGreatzK20
import Derived.Test.YthogadbnddmkdaaGreatzT0
set_option linter.unusedSimpArgs false
set_option linter.unusedVariables false
set_option maxHeartbeats 4000000
set_option maxRecDepth 100000
namespace Go.Proofs.YthogadbnddmkdaaGreat
open Go.Av
abbrev f_spec_l04One : Nat := 134
def c_spec_l04One : SC :=
 .seq (.reg [
     ⟨(some 2), .mv (.const (.slice none 0 0)), none⟩] [0])
 (.seq (.reg [
     ⟨(some 5), .bslice 2 1 0 [] [], none⟩,
     ⟨(some 3), .mv (.tmp 5), none⟩] [0, 3])
 (.seq (.seq (.reg [
     ⟨(some 4), .mv (.const (.int .i64 0)), none⟩] [0, 3, 4])
 (.block 0 (.loop [0, 3, 4]
   (.seq (.seq (.reg [
       ⟨(some 6), .mv (.tmp 4), none⟩,
       ⟨(some 7), .mv (.tmp 0), none⟩,
       ⟨(some 8), .bin .lss (.tmp 6) (.tmp 7), none⟩] [0, 3, 4, 8])
   (.cond (.tmp 8)
    (.skip)
    (.exit 0)))
   (.seq (.block 1 (.reg [
        ⟨(some 11), .mv (.tmp 3), none⟩,
        ⟨(some 12), .mv (.tmp 4), none⟩,
        ⟨(some 13), .bslice 2 1 1 [(.int .i64 0)] [(0, (.tmp 12))], none⟩,
        ⟨(some 14), .app 2 1 8 (.tmp 11) (.tmp 13), none⟩,
        ⟨(some 3), .mv (.tmp 14), none⟩] [0, 3, 4]))
   (.reg [
       ⟨(some 9), .mv (.tmp 4), none⟩,
       ⟨(some 10), .bin .add (.tmp 9) (.const (.int .i64 1)), none⟩,
       ⟨(some 4), .mv (.tmp 10), none⟩] [0, 3, 4]))))))
 (.seq (.reg [
     ⟨(some 15), .mv (.tmp 3), none⟩,
     ⟨(some 2), .mv (.tmp 15), none⟩] [2])
 (.ret))))
theorem s_spec_l04One : stripF Tryz.prog 134 [[0], [0, 3], [0, 3, 4], [0, 3, 4], [0, 3, 4, 8], [0, 3, 4], [0, 3, 4], [2]] = some (c_spec_l04One, [.tmp 2], 16) := by kernel_rfl
end Go.Proofs.YthogadbnddmkdaaGreat
