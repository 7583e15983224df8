/- Affine maps as groups: the reference. -/
import Derived.Test.YtogapbapbmhdfaaProg
import Derived.KernelRfl
import Derived.Test.YtogapbapbmhdfaazK50
set_option linter.unusedSimpArgs false
set_option linter.unusedVariables false
set_option maxHeartbeats 4000000
set_option maxRecDepth 100000
namespace Go.Proofs.Ytogapbapbmhdfaa
open Go.Av
abbrev f_spec_l21PutList : Nat := 80
def c_spec_l21PutList : SC :=
 .seq (.reg [
     ⟨(some 4), .mv (.const (.slice none 0 0)), none⟩] [0, 1])
 (.seq (.reg [
     ⟨(some 9), .bslice 33 1 0 [] [], none⟩,
     ⟨(some 5), .mv (.tmp 9), none⟩] [0, 1, 5])
 (.seq (.reg [
     ⟨(some 6), .mv (.const (.bool false)), none⟩] [0, 1, 5, 6])
 (.seq (.seq (.reg [
     ⟨(some 7), .mv (.const (.int .i64 0)), none⟩] [0, 1, 5, 6, 7])
 (.block 0 (.loop [0, 1, 5, 6, 7]
   (.seq (.seq (.reg [
       ⟨(some 10), .mv (.tmp 7), none⟩,
       ⟨(some 11), .mv (.tmp 0), none⟩,
       ⟨(some 12), .len (.tmp 11), none⟩,
       ⟨(some 13), .bin .lss (.tmp 10) (.tmp 12), none⟩] [0, 1, 5, 6, 7, 13])
   (.cond (.tmp 13)
    (.skip)
    (.exit 0)))
   (.seq (.block 1 (.seq (.reg [
        ⟨(some 16), .mv (.tmp 0), none⟩,
        ⟨(some 17), .mv (.tmp 7), none⟩,
        ⟨(some 18), .iaddr 1 (.tmp 16) (.tmp 17), none⟩,
        ⟨(some 19), .load 1 false (.tmp 18), none⟩,
        ⟨(some 20), .mv (.tmp 1), none⟩,
        ⟨(some 21), .call 83 [(.tmp 19), (.tmp 20)], none⟩,
        ⟨(some 8), .mv (.tmp 21), none⟩] [0, 1, 5, 6, 7, 8])
    (.seq (.seq (.reg [
        ⟨(some 22), .mv (.tmp 6), none⟩,
        ⟨(some 23), .un .not (.tmp 22), none⟩,
        ⟨(some 24), .mv (.tmp 23), none⟩,
        ⟨(some 25), .mv (.tmp 8), (some (24, true))⟩,
        ⟨(some 26), .bin .geq (.tmp 25) (.const (.int .i64 0)), (some (24, true))⟩,
        ⟨(some 27), .pick (.tmp 24) (.tmp 26) (.const (.bool false)), none⟩] [0, 1, 5, 6, 7, 8, 27])
    (.cond (.tmp 27)
     (.seq (.reg [
         ⟨(some 6), .mv (.const (.bool true)), none⟩] [0, 1, 5, 6, 7, 8])
     (.seq (.reg [
         ⟨(some 28), .mv (.tmp 8), none⟩,
         ⟨(some 29), .bin .gtr (.tmp 28) (.const (.int .i64 0)), none⟩] [0, 1, 5, 6, 7, 29])
     (.cond (.tmp 29)
      (.reg [
          ⟨(some 30), .mv (.tmp 5), none⟩,
          ⟨(some 31), .mv (.tmp 1), none⟩,
          ⟨(some 32), .bslice 33 1 1 [(.slice none 0 0)] [(0, (.tmp 31))], none⟩,
          ⟨(some 33), .app 33 1 24 (.tmp 30) (.tmp 32), none⟩,
          ⟨(some 5), .mv (.tmp 33), none⟩] [0, 1, 5, 6, 7])
      (.skip))))
     (.skip)))
    (.reg [
        ⟨(some 34), .mv (.tmp 5), none⟩,
        ⟨(some 35), .mv (.tmp 0), none⟩,
        ⟨(some 36), .mv (.tmp 7), none⟩,
        ⟨(some 37), .iaddr 1 (.tmp 35) (.tmp 36), none⟩,
        ⟨(some 38), .load 1 false (.tmp 37), none⟩,
        ⟨(some 39), .bslice 33 1 1 [(.slice none 0 0)] [(0, (.tmp 38))], none⟩,
        ⟨(some 40), .app 33 1 24 (.tmp 34) (.tmp 39), none⟩,
        ⟨(some 5), .mv (.tmp 40), none⟩] [0, 1, 5, 6, 7]))))
   (.reg [
       ⟨(some 14), .mv (.tmp 7), none⟩,
       ⟨(some 15), .bin .add (.tmp 14) (.const (.int .i64 1)), none⟩,
       ⟨(some 7), .mv (.tmp 15), none⟩] [0, 1, 5, 6, 7]))))))
 (.seq (.seq (.reg [
     ⟨(some 41), .mv (.tmp 6), none⟩,
     ⟨(some 42), .un .not (.tmp 41), none⟩] [1, 5, 42])
 (.cond (.tmp 42)
  (.reg [
      ⟨(some 43), .mv (.tmp 5), none⟩,
      ⟨(some 44), .mv (.tmp 1), none⟩,
      ⟨(some 45), .bslice 33 1 1 [(.slice none 0 0)] [(0, (.tmp 44))], none⟩,
      ⟨(some 46), .app 33 1 24 (.tmp 43) (.tmp 45), none⟩,
      ⟨(some 5), .mv (.tmp 46), none⟩] [5])
  (.skip)))
 (.seq (.reg [
     ⟨(some 47), .mv (.tmp 5), none⟩,
     ⟨(some 4), .mv (.tmp 47), none⟩] [4])
 (.ret))))))
theorem s_spec_l21PutList : stripF Try.prog 80 [[0, 1], [0, 1, 5], [0, 1, 5, 6], [0, 1, 5, 6, 7], [0, 1, 5, 6, 7], [0, 1, 5, 6, 7, 13], [0, 1, 5, 6, 7, 8], [0, 1, 5, 6, 7, 8, 27], [0, 1, 5, 6, 7, 8], [0, 1, 5, 6, 7, 29], [0, 1, 5, 6, 7], [0, 1, 5, 6, 7], [0, 1, 5, 6, 7], [1, 5, 42], [5], [4]] = some (c_spec_l21PutList, [.tmp 4], 48) := by kernel_rfl
end Go.Proofs.Ytogapbapbmhdfaa
