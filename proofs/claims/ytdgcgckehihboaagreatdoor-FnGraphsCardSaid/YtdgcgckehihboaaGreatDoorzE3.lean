/- Graphs of sets: the program. -/
import Derived.Test.YtdgcgckehihboaaGreatDoorProg
import Derived.KernelRfl
import Derived.Test.YtdgcgckehihboaaGreatDoorzE1
import Derived.Test.YtdgcgckehihboaaGreatDoorzK19
import Derived.Test.YtdgcgckehihboaaGreatDoorzK10
import Derived.Test.YtdgcgckehihboaaGreatDoorzK2
import Derived.Test.YtdgcgckehihboaaGreatDoorzL1
set_option linter.unusedSimpArgs false
set_option linter.unusedVariables false
set_option linter.unusedSectionVars false
set_option maxHeartbeats 4000000
set_option maxRecDepth 100000
namespace Go.Proofs.YtdgcgckehihboaaGreatDoor
variable [Go.Av.DoorC]
open Go.Av
abbrev f_impl_sortedEdges : Nat := 54
def c_impl_sortedEdges : SC :=
 .seq (.reg [
     ⟨(some 2), .mv (.const (.slice none 0 0)), none⟩] [0])
 (.seq (.reg [
     ⟨(some 3), .mv (.const (.slice none 0 0)), none⟩] [0, 3])
 (.seq (.seq (.reg [
     ⟨(some 6), .mv (.tmp 0), none⟩,
     ⟨(some 7), .len (.tmp 6), none⟩,
     ⟨(some 8), .mv (.const (.int .i64 0)), none⟩] [3, 6, 7, 8])
 (.block 0 (.loop [3, 6, 7, 8]
   (.seq (.reg [
       ⟨(some 9), .bin .lss (.tmp 8) (.tmp 7), none⟩] [3, 6, 7, 8, 9])
   (.seq (.cond (.tmp 9)
    (.skip)
    (.exit 0))
   (.seq (.block 1 (.seq (.reg [
        ⟨(some 10), .iaddr 2 (.tmp 6) (.tmp 8), none⟩,
        ⟨(some 11), .load 2 true (.tmp 10), none⟩,
        ⟨(some 5), .alloc 49 [(.int .i64 0), (.int .i64 0)], none⟩,
        ⟨none, .store 2 (.tmp 5) (.tmp 11), none⟩] [3, 5, 6, 7, 8])
    (.reg [
        ⟨(some 12), .mv (.tmp 3), none⟩,
        ⟨(some 13), .faddr 0 (.tmp 5), none⟩,
        ⟨(some 14), .load 1 false (.tmp 13), none⟩,
        ⟨(some 15), .faddr 1 (.tmp 5), none⟩,
        ⟨(some 16), .load 1 false (.tmp 15), none⟩,
        ⟨(some 17), .mm false (.tmp 14) (.tmp 16), none⟩,
        ⟨(some 18), .faddr 0 (.tmp 5), none⟩,
        ⟨(some 19), .load 1 false (.tmp 18), none⟩,
        ⟨(some 20), .faddr 1 (.tmp 5), none⟩,
        ⟨(some 21), .load 1 false (.tmp 20), none⟩,
        ⟨(some 22), .mm true (.tmp 19) (.tmp 21), none⟩,
        ⟨(some 23), .build [(.int .i64 0), (.int .i64 0)] [(0, 1, (.tmp 17)), (1, 1, (.tmp 22))], none⟩,
        ⟨(some 24), .bslice 49 2 1 [(.int .i64 0), (.int .i64 0)] [(0, (.tmp 23))], none⟩,
        ⟨(some 25), .app 49 2 16 (.tmp 12) (.tmp 24), none⟩,
        ⟨(some 3), .mv (.tmp 25), none⟩] [3, 6, 7, 8])))
   (.reg [
       ⟨(some 26), .bin .add (.tmp 8) (.const (.int .i64 1)), none⟩,
       ⟨(some 8), .mv (.tmp 26), none⟩] [3, 6, 7, 8])))))))
 (.seq (.reg [
     ⟨(some 27), .mv (.tmp 3), none⟩,
     ⟨(some 28), .call 75 [(.tmp 27), (.func 30)], none⟩] [3])
 (.seq (.reg [
     ⟨(some 29), .mv (.tmp 3), none⟩,
     ⟨(some 30), .call 76 [(.tmp 29)], none⟩,
     ⟨(some 2), .mv (.tmp 30), none⟩] [2])
 (.ret)))))
theorem s_impl_sortedEdges : stripF Tryz.prog 54 [[0], [0, 3], [3, 6, 7, 8], [3, 6, 7, 8], [3, 6, 7, 8, 9], [3, 5, 6, 7, 8], [3, 6, 7, 8], [3, 6, 7, 8], [3], [2]] = some (c_impl_sortedEdges, [.tmp 2], 31) := by kernel_rfl
abbrev tyGr : Nat := 27
theorem flatE_snoc (es : List (Int × Int)) (e : Int × Int) : flatE (es ++ [e]) = flatE es ++ [I e.1, I e.2] := by simp [flatE]
end Go.Proofs.YtdgcgckehihboaaGreatDoor
