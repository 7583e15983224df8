/- Groups of permutations: searched for; valid groups in the program. Groups of permutations: valid groups in the program. Groups of permutations: the closure in the reference. Groups of permutations: valid groups in the reference. Groups of permutations: valid groups in the reference, all told. -/
import Derived.Test.YthogadbnddmkdaaGreatzK27
import Derived.Test.YthogadbnddmkdaaGreatProg
import Derived.KernelRfl
import Derived.Test.YthogadbnddmkdaaGreatzVA
import Derived.Test.YthogadbnddmkdaaGreatzQ2
import Derived.Test.YthogadbnddmkdaaGreatzK2
import Derived.Test.YthogadbnddmkdaaGreatzL1
import Derived.Test.YthogadbnddmkdaaGreatzG1
import Derived.Test.YthogadbnddmkdaaGreatzK50
import Derived.Test.YthogadbnddmkdaaGreatzK8
import Derived.Test.YthogadbnddmkdaaGreatzAv17
import Derived.Test.YthogadbnddmkdaaGreatzS3
import Derived.Test.YthogadbnddmkdaaGreatzT0
import Derived.Test.YthogadbnddmkdaaGreatzK62
import Derived.Test.YthogadbnddmkdaaGreatzK20
set_option linter.unusedSimpArgs false
set_option linter.unusedVariables false
set_option maxHeartbeats 4000000
set_option maxRecDepth 100000
namespace Go.Proofs.YthogadbnddmkdaaGreat
open Go.Av
abbrev f_impl_ValidGroup : Nat := 62
def c_impl_ValidGroup : SC :=
 .seq (.reg [
     ⟨(some 1), .box 44 (.tmp 0), none⟩,
     ⟨(some 2), .mv (.const (.bool false)), none⟩] [1])
 (.seq (.seq (.reg [
     ⟨(some 7), .faddr 0 (.tmp 1), none⟩,
     ⟨(some 8), .load 1 false (.tmp 7), none⟩,
     ⟨(some 9), .call 52 [(.tmp 8), (.const (.int .i64 1)), (.const (.int .i64 32))], none⟩,
     ⟨(some 10), .un .not (.tmp 9), none⟩,
     ⟨(some 11), .mv (.tmp 10), none⟩,
     ⟨(some 12), .faddr 1 (.tmp 1), (some (11, false))⟩,
     ⟨(some 13), .load 1 false (.tmp 12), (some (11, false))⟩,
     ⟨(some 14), .len (.tmp 13), (some (11, false))⟩,
     ⟨(some 15), .bin .lss (.tmp 14) (.const (.int .i64 1)), (some (11, false))⟩,
     ⟨(some 16), .pick (.tmp 11) (.const (.bool true)) (.tmp 15), none⟩,
     ⟨(some 17), .mv (.tmp 16), none⟩,
     ⟨(some 18), .faddr 1 (.tmp 1), (some (17, false))⟩,
     ⟨(some 19), .load 1 false (.tmp 18), (some (17, false))⟩,
     ⟨(some 20), .len (.tmp 19), (some (17, false))⟩,
     ⟨(some 21), .bin .gtr (.tmp 20) (.const (.int .i64 720)), (some (17, false))⟩,
     ⟨(some 22), .pick (.tmp 17) (.const (.bool true)) (.tmp 21), none⟩,
     ⟨(some 23), .mv (.tmp 22), none⟩,
     ⟨(some 24), .faddr 0 (.tmp 1), (some (23, false))⟩,
     ⟨(some 25), .load 1 false (.tmp 24), (some (23, false))⟩,
     ⟨(some 26), .faddr 1 (.tmp 1), (some (23, false))⟩,
     ⟨(some 27), .load 1 false (.tmp 26), (some (23, false))⟩,
     ⟨(some 28), .call 111 [(.tmp 25), (.tmp 27)], (some (23, false))⟩,
     ⟨(some 29), .un .not (.tmp 28), (some (23, false))⟩,
     ⟨(some 30), .pick (.tmp 23) (.const (.bool true)) (.tmp 29), none⟩] [1, 30])
 (.cond (.tmp 30)
  (.seq (.reg [
      ⟨(some 2), .mv (.const (.bool false)), none⟩] [2])
  (.ret))
  (.skip)))
 (.seq (.seq (.reg [
     ⟨(some 3), .mv (.const (.int .i64 1)), none⟩] [1, 3])
 (.block 0 (.loop [1, 3]
   (.seq (.seq (.reg [
       ⟨(some 31), .mv (.tmp 3), none⟩,
       ⟨(some 32), .faddr 1 (.tmp 1), none⟩,
       ⟨(some 33), .load 1 false (.tmp 32), none⟩,
       ⟨(some 34), .len (.tmp 33), none⟩,
       ⟨(some 35), .bin .lss (.tmp 31) (.tmp 34), none⟩] [1, 3, 35])
   (.cond (.tmp 35)
    (.skip)
    (.exit 0)))
   (.seq (.block 1 (.seq (.reg [
        ⟨(some 38), .faddr 1 (.tmp 1), none⟩,
        ⟨(some 39), .load 1 false (.tmp 38), none⟩,
        ⟨(some 40), .mv (.tmp 3), none⟩,
        ⟨(some 41), .bin .sub (.tmp 40) (.const (.int .i64 1)), none⟩,
        ⟨(some 42), .iaddr 1 (.tmp 39) (.tmp 41), none⟩,
        ⟨(some 43), .load 1 false (.tmp 42), none⟩,
        ⟨(some 44), .faddr 1 (.tmp 1), none⟩,
        ⟨(some 45), .load 1 false (.tmp 44), none⟩,
        ⟨(some 46), .mv (.tmp 3), none⟩,
        ⟨(some 47), .iaddr 1 (.tmp 45) (.tmp 46), none⟩,
        ⟨(some 48), .load 1 false (.tmp 47), none⟩,
        ⟨(some 49), .qcall 65 [(.tmp 43), (.tmp 48)], none⟩,
        ⟨(some 50), .bin .geq (.tmp 49) (.const (.int .i64 0)), none⟩] [1, 3, 50])
    (.cond (.tmp 50)
     (.seq (.reg [
         ⟨(some 2), .mv (.const (.bool false)), none⟩] [2])
     (.ret))
     (.skip))))
   (.reg [
       ⟨(some 36), .mv (.tmp 3), none⟩,
       ⟨(some 37), .bin .add (.tmp 36) (.const (.int .i64 1)), none⟩,
       ⟨(some 3), .mv (.tmp 37), none⟩] [1, 3]))))))
 (.seq (.reg [
     ⟨(some 52), .faddr 0 (.tmp 1), none⟩,
     ⟨(some 53), .load 1 false (.tmp 52), none⟩,
     ⟨(some 54), .faddr 1 (.tmp 1), none⟩,
     ⟨(some 55), .load 1 false (.tmp 54), none⟩,
     ⟨(some 56), .call 112 [(.tmp 53), (.tmp 55)], none⟩,
     ⟨(some 51), .mv (.tmp 56), none⟩,
     ⟨(some 57), .ext (.tmp 51) 0, none⟩,
     ⟨(some 58), .ext (.tmp 51) 1, none⟩,
     ⟨(some 59), .ext (.tmp 51) 2, none⟩,
     ⟨(some 4), .mv (.tmp 57), none⟩,
     ⟨(some 5), .mv (.tmp 58), none⟩,
     ⟨(some 6), .mv (.tmp 59), none⟩] [1, 5, 6])
 (.seq (.reg [
     ⟨(some 60), .mv (.tmp 6), none⟩,
     ⟨(some 61), .mv (.tmp 60), none⟩,
     ⟨(some 62), .mv (.tmp 5), (some (61, true))⟩,
     ⟨(some 63), .len (.tmp 62), (some (61, true))⟩,
     ⟨(some 64), .faddr 1 (.tmp 1), (some (61, true))⟩,
     ⟨(some 65), .load 1 false (.tmp 64), (some (61, true))⟩,
     ⟨(some 66), .len (.tmp 65), (some (61, true))⟩,
     ⟨(some 67), .bin .eql (.tmp 63) (.tmp 66), (some (61, true))⟩,
     ⟨(some 68), .pick (.tmp 61) (.tmp 67) (.const (.bool false)), none⟩,
     ⟨(some 2), .mv (.tmp 68), none⟩] [2])
 (.ret)))))
theorem s_impl_ValidGroup : stripF Tryz.prog 62 [[1], [1, 30], [2], [1, 3], [1, 3], [1, 3, 35], [1, 3, 50], [2], [1, 3], [1, 5, 6], [2]] = some (c_impl_ValidGroup, [.tmp 2], 69) := by kernel_rfl
abbrev f_impl_chosen : Nat := 112
def c_impl_chosen : SC :=
 .seq (.reg [
     ⟨(some 4), .mv (.const (.slice none 0 0)), none⟩,
     ⟨(some 5), .mv (.const (.slice none 0 0)), none⟩,
     ⟨(some 6), .mv (.const (.bool false)), none⟩] [0, 1])
 (.seq (.reg [
     ⟨(some 7), .mv (.const (.slice none 0 0)), none⟩] [0, 1, 7])
 (.seq (.reg [
     ⟨(some 15), .mv (.tmp 0), none⟩,
     ⟨(some 16), .call 144 [(.tmp 15), (.const (.slice none 0 0))], none⟩,
     ⟨(some 14), .mv (.tmp 16), none⟩,
     ⟨(some 17), .ext (.tmp 14) 0, none⟩,
     ⟨(some 18), .ext (.tmp 14) 1, none⟩,
     ⟨(some 8), .mv (.tmp 17), none⟩,
     ⟨(some 9), .mv (.tmp 18), none⟩] [0, 1, 7, 8, 9])
 (.seq (.seq (.reg [
     ⟨(some 19), .mv (.tmp 1), none⟩,
     ⟨(some 20), .len (.tmp 19), none⟩,
     ⟨(some 21), .mv (.const (.int .i64 0)), none⟩] [0, 7, 8, 9, 19, 20, 21])
 (.block 0 (.loop [0, 7, 8, 9, 19, 20, 21]
   (.seq (.reg [
       ⟨(some 22), .bin .lss (.tmp 21) (.tmp 20), none⟩] [0, 7, 8, 9, 19, 20, 21, 22])
   (.seq (.cond (.tmp 22)
    (.skip)
    (.exit 0))
   (.seq (.block 1 (.seq (.reg [
        ⟨(some 23), .iaddr 1 (.tmp 19) (.tmp 21), none⟩,
        ⟨(some 24), .load 1 false (.tmp 23), none⟩,
        ⟨(some 11), .mv (.tmp 24), none⟩] [0, 7, 8, 9, 11, 19, 20, 21])
    (.seq (.seq (.reg [
        ⟨(some 26), .mv (.tmp 8), none⟩,
        ⟨(some 27), .mv (.tmp 11), none⟩,
        ⟨(some 28), .call 145 [(.tmp 26), (.tmp 27), (.func 65)], none⟩,
        ⟨(some 25), .mv (.tmp 28), none⟩,
        ⟨(some 29), .ext (.tmp 25) 0, none⟩,
        ⟨(some 30), .ext (.tmp 25) 1, none⟩,
        ⟨(some 12), .mv (.tmp 29), none⟩,
        ⟨(some 13), .mv (.tmp 30), none⟩] [0, 7, 8, 9, 11, 13, 19, 20, 21])
    (.seq (.reg [
        ⟨(some 31), .mv (.tmp 13), none⟩,
        ⟨(some 32), .mv (.tmp 31), none⟩,
        ⟨(some 33), .mv (.tmp 9), (some (32, false))⟩,
        ⟨(some 34), .un .not (.tmp 33), (some (32, false))⟩,
        ⟨(some 35), .pick (.tmp 32) (.const (.bool true)) (.tmp 34), none⟩] [0, 7, 8, 9, 11, 19, 20, 21, 35])
    (.cond (.tmp 35)
     (.exit 1)
     (.skip))))
    (.seq (.reg [
        ⟨(some 36), .mv (.tmp 7), none⟩,
        ⟨(some 37), .mv (.tmp 11), none⟩,
        ⟨(some 38), .bslice 50 1 1 [(.slice none 0 0)] [(0, (.tmp 37))], none⟩,
        ⟨(some 39), .app 50 1 24 (.tmp 36) (.tmp 38), none⟩,
        ⟨(some 7), .mv (.tmp 39), none⟩] [0, 7, 19, 20, 21])
    (.reg [
        ⟨(some 41), .mv (.tmp 0), none⟩,
        ⟨(some 42), .mv (.tmp 7), none⟩,
        ⟨(some 43), .call 144 [(.tmp 41), (.tmp 42)], none⟩,
        ⟨(some 40), .mv (.tmp 43), none⟩,
        ⟨(some 44), .ext (.tmp 40) 0, none⟩,
        ⟨(some 45), .ext (.tmp 40) 1, none⟩,
        ⟨(some 8), .mv (.tmp 44), none⟩,
        ⟨(some 9), .mv (.tmp 45), none⟩] [0, 7, 8, 9, 19, 20, 21])))))
   (.reg [
       ⟨(some 46), .bin .add (.tmp 21) (.const (.int .i64 1)), none⟩,
       ⟨(some 21), .mv (.tmp 46), none⟩] [0, 7, 8, 9, 19, 20, 21])))))))
 (.seq (.reg [
     ⟨(some 47), .mv (.tmp 7), none⟩,
     ⟨(some 48), .mv (.tmp 8), none⟩,
     ⟨(some 49), .mv (.tmp 9), none⟩,
     ⟨(some 4), .mv (.tmp 47), none⟩,
     ⟨(some 5), .mv (.tmp 48), none⟩,
     ⟨(some 6), .mv (.tmp 49), none⟩] [4, 5, 6])
 (.ret)))))
theorem s_impl_chosen : stripF Tryz.prog 112 [[0, 1], [0, 1, 7], [0, 1, 7, 8, 9], [0, 7, 8, 9, 19, 20, 21], [0, 7, 8, 9, 19, 20, 21], [0, 7, 8, 9, 19, 20, 21, 22], [0, 7, 8, 9, 11, 19, 20, 21], [0, 7, 8, 9, 11, 13, 19, 20, 21], [0, 7, 8, 9, 11, 19, 20, 21, 35], [0, 7, 19, 20, 21], [0, 7, 8, 9, 19, 20, 21], [0, 7, 8, 9, 19, 20, 21], [4, 5, 6]] = some (c_impl_chosen, [.tmp 4, .tmp 5, .tmp 6], 50) := by kernel_rfl
abbrev f_spec_l05Close : Nat := 140
def c_spec_l05Close : SC :=
 .seq (.reg [
     ⟨(some 6), .mv (.const (.slice none 0 0)), none⟩,
     ⟨(some 7), .mv (.const (.bool false)), none⟩] [0, 1, 2])
 (.seq (.reg [
     ⟨(some 16), .mv (.tmp 0), none⟩,
     ⟨(some 17), .call 134 [(.tmp 16)], none⟩,
     ⟨(some 8), .mv (.tmp 17), none⟩] [1, 2, 8])
 (.seq (.reg [
     ⟨(some 18), .mv (.tmp 8), none⟩,
     ⟨(some 19), .bslice 50 1 1 [(.slice none 0 0)] [(0, (.tmp 18))], none⟩,
     ⟨(some 9), .mv (.tmp 19), none⟩] [1, 2, 8, 9])
 (.seq (.reg [
     ⟨(some 20), .mv (.tmp 8), none⟩,
     ⟨(some 21), .bslice 50 1 1 [(.slice none 0 0)] [(0, (.tmp 20))], none⟩,
     ⟨(some 10), .mv (.tmp 21), none⟩] [1, 2, 9, 10])
 (.seq (.seq (.reg [
     ⟨(some 11), .mv (.const (.int .i64 0)), none⟩] [1, 2, 9, 10, 11])
 (.block 0 (.loop [1, 2, 9, 10, 11]
   (.seq (.seq (.reg [
       ⟨(some 22), .mv (.tmp 11), none⟩,
       ⟨(some 23), .mv (.tmp 10), none⟩,
       ⟨(some 24), .len (.tmp 23), none⟩,
       ⟨(some 25), .bin .lss (.tmp 22) (.tmp 24), none⟩] [1, 2, 9, 10, 11, 25])
   (.cond (.tmp 25)
    (.skip)
    (.exit 0)))
   (.seq (.block 1 (.seq (.reg [
        ⟨(some 12), .mv (.const (.int .i64 0)), none⟩] [1, 2, 9, 10, 11, 12])
    (.block 2 (.loop [1, 2, 9, 10, 11, 12]
      (.seq (.seq (.reg [
          ⟨(some 28), .mv (.tmp 12), none⟩,
          ⟨(some 29), .mv (.tmp 1), none⟩,
          ⟨(some 30), .len (.tmp 29), none⟩,
          ⟨(some 31), .bin .lss (.tmp 28) (.tmp 30), none⟩] [1, 2, 9, 10, 11, 12, 31])
      (.cond (.tmp 31)
       (.skip)
       (.exit 2)))
      (.seq (.block 3 (.seq (.reg [
           ⟨(some 34), .mv (.tmp 10), none⟩,
           ⟨(some 35), .mv (.tmp 11), none⟩,
           ⟨(some 36), .iaddr 1 (.tmp 34) (.tmp 35), none⟩,
           ⟨(some 37), .load 1 false (.tmp 36), none⟩,
           ⟨(some 38), .mv (.tmp 1), none⟩,
           ⟨(some 39), .mv (.tmp 12), none⟩,
           ⟨(some 40), .iaddr 1 (.tmp 38) (.tmp 39), none⟩,
           ⟨(some 41), .load 1 false (.tmp 40), none⟩,
           ⟨(some 42), .qcall 173 [(.tmp 37), (.tmp 41)], none⟩,
           ⟨(some 13), .mv (.tmp 42), none⟩] [1, 2, 9, 10, 11, 12, 13])
       (.seq (.reg [
           ⟨(some 44), .mv (.tmp 9), none⟩,
           ⟨(some 45), .mv (.tmp 13), none⟩,
           ⟨(some 46), .call 174 [(.tmp 44), (.tmp 45)], none⟩,
           ⟨(some 43), .mv (.tmp 46), none⟩,
           ⟨(some 47), .ext (.tmp 43) 0, none⟩,
           ⟨(some 48), .ext (.tmp 43) 1, none⟩,
           ⟨(some 14), .mv (.tmp 47), none⟩,
           ⟨(some 15), .mv (.tmp 48), none⟩] [1, 2, 9, 10, 11, 12, 13, 14, 15])
       (.seq (.seq (.reg [
           ⟨(some 49), .mv (.tmp 15), none⟩] [1, 2, 9, 10, 11, 12, 13, 14, 49])
       (.cond (.tmp 49)
        (.exit 3)
        (.skip)))
       (.seq (.seq (.reg [
           ⟨(some 50), .mv (.tmp 9), none⟩,
           ⟨(some 51), .len (.tmp 50), none⟩,
           ⟨(some 52), .mv (.tmp 2), none⟩,
           ⟨(some 53), .bin .eql (.tmp 51) (.tmp 52), none⟩] [1, 2, 9, 10, 11, 12, 13, 14, 53])
       (.cond (.tmp 53)
        (.seq (.reg [
            ⟨(some 6), .mv (.const (.slice none 0 0)), none⟩,
            ⟨(some 7), .mv (.const (.bool false)), none⟩] [6, 7])
        (.ret))
        (.skip)))
       (.seq (.reg [
           ⟨(some 54), .mv (.tmp 9), none⟩,
           ⟨(some 55), .mv (.tmp 14), none⟩,
           ⟨(some 56), .mv (.tmp 13), none⟩,
           ⟨(some 57), .call 175 [(.tmp 54), (.tmp 55), (.tmp 56)], none⟩,
           ⟨(some 9), .mv (.tmp 57), none⟩] [1, 2, 9, 10, 11, 12, 13])
       (.reg [
           ⟨(some 58), .mv (.tmp 10), none⟩,
           ⟨(some 59), .mv (.tmp 13), none⟩,
           ⟨(some 60), .bslice 50 1 1 [(.slice none 0 0)] [(0, (.tmp 59))], none⟩,
           ⟨(some 61), .app 50 1 24 (.tmp 58) (.tmp 60), none⟩,
           ⟨(some 10), .mv (.tmp 61), none⟩] [1, 2, 9, 10, 11, 12])))))))
      (.reg [
          ⟨(some 32), .mv (.tmp 12), none⟩,
          ⟨(some 33), .bin .add (.tmp 32) (.const (.int .i64 1)), none⟩,
          ⟨(some 12), .mv (.tmp 33), none⟩] [1, 2, 9, 10, 11, 12])))))))
   (.reg [
       ⟨(some 26), .mv (.tmp 11), none⟩,
       ⟨(some 27), .bin .add (.tmp 26) (.const (.int .i64 1)), none⟩,
       ⟨(some 11), .mv (.tmp 27), none⟩] [1, 2, 9, 10, 11]))))))
 (.seq (.reg [
     ⟨(some 62), .mv (.tmp 9), none⟩,
     ⟨(some 6), .mv (.tmp 62), none⟩,
     ⟨(some 7), .mv (.const (.bool true)), none⟩] [6, 7])
 (.ret))))))
theorem s_spec_l05Close : stripF Tryz.prog 140 [[0, 1, 2], [1, 2, 8], [1, 2, 8, 9], [1, 2, 9, 10], [1, 2, 9, 10, 11], [1, 2, 9, 10, 11], [1, 2, 9, 10, 11, 25], [1, 2, 9, 10, 11, 12], [1, 2, 9, 10, 11, 12], [1, 2, 9, 10, 11, 12, 31], [1, 2, 9, 10, 11, 12, 13], [1, 2, 9, 10, 11, 12, 13, 14, 15], [1, 2, 9, 10, 11, 12, 13, 14, 49], [1, 2, 9, 10, 11, 12, 13, 14, 53], [6, 7], [1, 2, 9, 10, 11, 12, 13], [1, 2, 9, 10, 11, 12], [1, 2, 9, 10, 11, 12], [1, 2, 9, 10, 11], [6, 7]] = some (c_spec_l05Close, [.tmp 6, .tmp 7], 63) := by kernel_rfl
abbrev f_slices_BinarySearchFunc_LLint64_Lint64_Lint64 : Nat := 145
def c_slices_BinarySearchFunc_LLint64_Lint64_Lint64 : SC :=
 .seq (.reg [
     ⟨(some 6), .mv (.const (.int .i64 0)), none⟩,
     ⟨(some 7), .mv (.const (.bool false)), none⟩] [0, 1, 2])
 (.seq (.reg [
     ⟨(some 12), .mv (.tmp 0), none⟩,
     ⟨(some 13), .len (.tmp 12), none⟩,
     ⟨(some 8), .mv (.tmp 13), none⟩] [0, 1, 2, 8])
 (.seq (.reg [
     ⟨(some 14), .mv (.tmp 8), none⟩,
     ⟨(some 9), .mv (.const (.int .i64 0)), none⟩,
     ⟨(some 10), .mv (.tmp 14), none⟩] [0, 1, 2, 8, 9, 10])
 (.seq (.block 0 (.loop [0, 1, 2, 8, 9, 10]
   (.seq (.seq (.reg [
       ⟨(some 15), .mv (.tmp 9), none⟩,
       ⟨(some 16), .mv (.tmp 10), none⟩,
       ⟨(some 17), .bin .lss (.tmp 15) (.tmp 16), none⟩] [0, 1, 2, 8, 9, 10, 17])
   (.cond (.tmp 17)
    (.skip)
    (.exit 0)))
   (.block 1 (.seq (.reg [
        ⟨(some 18), .mv (.tmp 9), none⟩,
        ⟨(some 19), .mv (.tmp 10), none⟩,
        ⟨(some 20), .bin .add (.tmp 18) (.tmp 19), none⟩,
        ⟨(some 21), .conv .u64 (.tmp 20), none⟩,
        ⟨(some 22), .bin .shr (.tmp 21) (.const (.int .u64 1)), none⟩,
        ⟨(some 23), .conv .i64 (.tmp 22), none⟩,
        ⟨(some 11), .mv (.tmp 23), none⟩] [0, 1, 2, 8, 9, 10, 11])
    (.seq (.reg [
        ⟨(some 24), .mv (.tmp 2), none⟩,
        ⟨(some 25), .mv (.tmp 0), none⟩,
        ⟨(some 26), .mv (.tmp 11), none⟩,
        ⟨(some 27), .iaddr 1 (.tmp 25) (.tmp 26), none⟩,
        ⟨(some 28), .load 1 false (.tmp 27), none⟩,
        ⟨(some 29), .mv (.tmp 1), none⟩,
        ⟨(some 30), .callv (.tmp 24) [(.tmp 28), (.tmp 29)], none⟩,
        ⟨(some 31), .bin .lss (.tmp 30) (.const (.int .i64 0)), none⟩] [0, 1, 2, 8, 9, 10, 11, 31])
    (.cond (.tmp 31)
     (.reg [
         ⟨(some 32), .mv (.tmp 11), none⟩,
         ⟨(some 33), .bin .add (.tmp 32) (.const (.int .i64 1)), none⟩,
         ⟨(some 9), .mv (.tmp 33), none⟩] [0, 1, 2, 8, 9, 10])
     (.reg [
         ⟨(some 34), .mv (.tmp 11), none⟩,
         ⟨(some 10), .mv (.tmp 34), none⟩] [0, 1, 2, 8, 9, 10]))))))))
 (.seq (.reg [
     ⟨(some 35), .mv (.tmp 9), none⟩,
     ⟨(some 36), .mv (.tmp 9), none⟩,
     ⟨(some 37), .mv (.tmp 8), none⟩,
     ⟨(some 38), .bin .lss (.tmp 36) (.tmp 37), none⟩,
     ⟨(some 39), .mv (.tmp 38), none⟩,
     ⟨(some 40), .mv (.tmp 2), (some (39, true))⟩,
     ⟨(some 41), .mv (.tmp 0), (some (39, true))⟩,
     ⟨(some 42), .mv (.tmp 9), (some (39, true))⟩,
     ⟨(some 43), .iaddr 1 (.tmp 41) (.tmp 42), (some (39, true))⟩,
     ⟨(some 44), .load 1 false (.tmp 43), (some (39, true))⟩,
     ⟨(some 45), .mv (.tmp 1), (some (39, true))⟩,
     ⟨(some 46), .callv (.tmp 40) [(.tmp 44), (.tmp 45)], (some (39, true))⟩,
     ⟨(some 47), .bin .eql (.tmp 46) (.const (.int .i64 0)), (some (39, true))⟩,
     ⟨(some 48), .pick (.tmp 39) (.tmp 47) (.const (.bool false)), none⟩,
     ⟨(some 6), .mv (.tmp 35), none⟩,
     ⟨(some 7), .mv (.tmp 48), none⟩] [6, 7])
 (.ret)))))
theorem s_slices_BinarySearchFunc_LLint64_Lint64_Lint64 : stripF Tryz.prog 145 [[0, 1, 2], [0, 1, 2, 8], [0, 1, 2, 8, 9, 10], [0, 1, 2, 8, 9, 10], [0, 1, 2, 8, 9, 10, 17], [0, 1, 2, 8, 9, 10, 11], [0, 1, 2, 8, 9, 10, 11, 31], [0, 1, 2, 8, 9, 10], [0, 1, 2, 8, 9, 10], [6, 7]] = some (c_slices_BinarySearchFunc_LLint64_Lint64_Lint64, [.tmp 6, .tmp 7], 49) := by kernel_rfl
abbrev f_spec_l05Find : Nat := 174
def c_spec_l05Find : SC :=
 .seq (.reg [
     ⟨(some 4), .mv (.const (.int .i64 0)), none⟩,
     ⟨(some 5), .mv (.const (.bool false)), none⟩] [0, 1])
 (.seq (.reg [
     ⟨(some 6), .mv (.const (.int .i64 0)), none⟩] [0, 1, 6])
 (.seq (.reg [
     ⟨(some 10), .mv (.tmp 0), none⟩,
     ⟨(some 11), .len (.tmp 10), none⟩,
     ⟨(some 7), .mv (.tmp 11), none⟩] [0, 1, 6, 7])
 (.seq (.block 0 (.loop [0, 1, 6, 7]
   (.seq (.seq (.reg [
       ⟨(some 12), .mv (.tmp 6), none⟩,
       ⟨(some 13), .mv (.tmp 7), none⟩,
       ⟨(some 14), .bin .lss (.tmp 12) (.tmp 13), none⟩] [0, 1, 6, 7, 14])
   (.cond (.tmp 14)
    (.skip)
    (.exit 0)))
   (.block 1 (.seq (.reg [
        ⟨(some 15), .mv (.tmp 6), none⟩,
        ⟨(some 16), .mv (.tmp 7), none⟩,
        ⟨(some 17), .bin .add (.tmp 15) (.tmp 16), none⟩,
        ⟨(some 18), .bin .quo (.tmp 17) (.const (.int .i64 2)), none⟩,
        ⟨(some 8), .mv (.tmp 18), none⟩] [0, 1, 6, 7, 8])
    (.seq (.reg [
        ⟨(some 19), .mv (.tmp 0), none⟩,
        ⟨(some 20), .mv (.tmp 8), none⟩,
        ⟨(some 21), .iaddr 1 (.tmp 19) (.tmp 20), none⟩,
        ⟨(some 22), .load 1 false (.tmp 21), none⟩,
        ⟨(some 23), .mv (.tmp 1), none⟩,
        ⟨(some 24), .call 102 [(.tmp 22), (.tmp 23)], none⟩,
        ⟨(some 9), .mv (.tmp 24), none⟩] [0, 1, 6, 7, 8, 9])
    (.seq (.seq (.reg [
        ⟨(some 25), .mv (.tmp 9), none⟩,
        ⟨(some 26), .bin .eql (.tmp 25) (.const (.int .i64 0)), none⟩] [0, 1, 6, 7, 8, 9, 26])
    (.cond (.tmp 26)
     (.seq (.reg [
         ⟨(some 27), .mv (.tmp 8), none⟩,
         ⟨(some 4), .mv (.tmp 27), none⟩,
         ⟨(some 5), .mv (.const (.bool true)), none⟩] [4, 5])
     (.ret))
     (.skip)))
    (.seq (.reg [
        ⟨(some 28), .mv (.tmp 9), none⟩,
        ⟨(some 29), .bin .lss (.tmp 28) (.const (.int .i64 0)), none⟩] [0, 1, 6, 7, 8, 29])
    (.cond (.tmp 29)
     (.reg [
         ⟨(some 30), .mv (.tmp 8), none⟩,
         ⟨(some 31), .bin .add (.tmp 30) (.const (.int .i64 1)), none⟩,
         ⟨(some 6), .mv (.tmp 31), none⟩] [0, 1, 6, 7])
     (.reg [
         ⟨(some 32), .mv (.tmp 8), none⟩,
         ⟨(some 7), .mv (.tmp 32), none⟩] [0, 1, 6, 7]))))))))))
 (.seq (.reg [
     ⟨(some 33), .mv (.tmp 6), none⟩,
     ⟨(some 4), .mv (.tmp 33), none⟩,
     ⟨(some 5), .mv (.const (.bool false)), none⟩] [4, 5])
 (.ret)))))
theorem s_spec_l05Find : stripF Tryz.prog 174 [[0, 1], [0, 1, 6], [0, 1, 6, 7], [0, 1, 6, 7], [0, 1, 6, 7, 14], [0, 1, 6, 7, 8], [0, 1, 6, 7, 8, 9], [0, 1, 6, 7, 8, 9, 26], [4, 5], [0, 1, 6, 7, 8, 29], [0, 1, 6, 7], [0, 1, 6, 7], [4, 5]] = some (c_spec_l05Find, [.tmp 4, .tmp 5], 34) := by kernel_rfl
abbrev f_spec_l05Put : Nat := 175
def c_spec_l05Put : SC :=
 .seq (.reg [
     ⟨(some 6), .mv (.const (.slice none 0 0)), none⟩] [0, 1, 2])
 (.seq (.reg [
     ⟨(some 8), .bslice 50 1 0 [] [], none⟩,
     ⟨(some 9), .mv (.tmp 0), none⟩,
     ⟨(some 10), .mv (.tmp 1), none⟩,
     ⟨(some 11), .slc 1 (.tmp 9) none (some (.tmp 10)), none⟩,
     ⟨(some 12), .app 50 1 24 (.tmp 8) (.tmp 11), none⟩,
     ⟨(some 7), .mv (.tmp 12), none⟩] [0, 1, 2, 7])
 (.seq (.reg [
     ⟨(some 13), .mv (.tmp 7), none⟩,
     ⟨(some 14), .mv (.tmp 2), none⟩,
     ⟨(some 15), .bslice 50 1 1 [(.slice none 0 0)] [(0, (.tmp 14))], none⟩,
     ⟨(some 16), .app 50 1 24 (.tmp 13) (.tmp 15), none⟩,
     ⟨(some 7), .mv (.tmp 16), none⟩] [0, 1, 7])
 (.seq (.reg [
     ⟨(some 17), .mv (.tmp 7), none⟩,
     ⟨(some 18), .mv (.tmp 0), none⟩,
     ⟨(some 19), .mv (.tmp 1), none⟩,
     ⟨(some 20), .slc 1 (.tmp 18) (some (.tmp 19)) none, none⟩,
     ⟨(some 21), .app 50 1 24 (.tmp 17) (.tmp 20), none⟩,
     ⟨(some 6), .mv (.tmp 21), none⟩] [6])
 (.ret))))
theorem s_spec_l05Put : stripF Tryz.prog 175 [[0, 1, 2], [0, 1, 2, 7], [0, 1, 7], [6]] = some (c_spec_l05Put, [.tmp 6], 22) := by kernel_rfl
def cntL (L : List (List Int)) (p : List Int) : Nat := (L.filter fun x => decide (cmpL x p < 0)).length
theorem cntL_le (L : List (List Int)) (p : List Int) : cntL L p ≤ L.length := List.length_filter_le _ _
theorem cntL_zero {L : List (List Int)} {p : List Int} (h : ∀ x ∈ L, ¬ cmpL x p < 0) : cntL L p = 0 := by
  unfold cntL
  rw [List.length_eq_zero_iff, List.filter_eq_nil_iff]
  intro x hx
  simpa using h x hx
theorem cntL_lt {p : List Int} : ∀ {L : List (List Int)}, Asc cmpL L → ∀ {h : Nat} (hl : h < L.length), cmpL L[h] p < 0 ↔ h < cntL L p
  | [], _, _, hl => by simp at hl
  | x :: r, ha, h, hl => by
    have ha' := List.pairwise_cons.1 ha
    by_cases hx : cmpL x p < 0
    · have e : cntL (x :: r) p = cntL r p + 1 := by unfold cntL; rw [List.filter_cons_of_pos (by simpa using hx)]; rfl
      rw [e]
      cases h with
      | zero => simp [hx]
      | succ h =>
        have := cntL_lt (p := p) (L := r) ha'.2 (h := h) (by simpa using hl)
        simp only [List.getElem_cons_succ]
        rw [this]; omega
    · have hall : ∀ y ∈ x :: r, ¬ cmpL y p < 0 := by
        intro y hy hyp
        rcases List.mem_cons.1 hy with rfl | hy
        · exact hx hyp
        · exact hx (cmpL_trans _ _ _ (ha'.1 y hy) hyp)
      rw [cntL_zero hall]
      constructor
      · intro hh; exact absurd hh (hall _ (List.getElem_mem _))
      · omega
theorem cntL_mem {L : List (List Int)} {p : List Int} (ha : Asc cmpL L) : p ∈ L ↔ ∃ h : cntL L p < L.length, cmpL L[cntL L p] p = 0 := by
  constructor
  · intro hp
    obtain ⟨j, hj, he⟩ := List.getElem_of_mem hp
    have h1 := cntL_lt (p := p) ha hj
    rw [he] at h1
    have h0 : cmpL p p = 0 := (cmpL_eq0 p p).2 rfl
    have h2 : ¬ j < cntL L p := fun h => by have := h1.2 h; omega
    have h3 : cntL L p = j := by
      rcases Nat.lt_or_eq_of_le (Nat.le_of_not_lt h2) with h4 | h4
      · have h5 := cntL_lt (p := p) ha (h := cntL L p) (by omega)
        have h6 := List.pairwise_iff_getElem.1 ha (cntL L p) j (by omega) hj h4
        rw [he] at h6
        have := h5.1 h6
        omega
      · exact h4
    subst h3
    exact ⟨hj, by rw [he]; exact h0⟩
  · rintro ⟨h, he⟩
    rw [← (cmpL_eq0 _ _).1 he]
    exact List.getElem_mem _
def u64v (x : Int) : AV := .lit (.int .u64 x)
theorem wrap_u64 {x : Int} (h0 : 0 ≤ x) (h1 : x ≤ 9223372036854775807) : IntKind.u64.wrap x = x := by
  have e : x % (2 ^ IntKind.u64.bits : Int) = x := by
    show x % (2 ^ 64 : Int) = x
    omega
  show (if (false && decide (x % (2 ^ IntKind.u64.bits : Int) ≥ (2 ^ (IntKind.u64.bits - 1) : Int))) = true then x % (2 ^ IntKind.u64.bits : Int) - (2 ^ IntKind.u64.bits : Int) else x % (2 ^ IntKind.u64.bits : Int)) = x
  rw [Bool.false_and, if_neg (by simp), e]
theorem ConvW_u64 {x : Int} (h0 : 0 ≤ x) (h1 : x ≤ 9223372036854775807) (H : List Blk) (K : AV → List Blk → Prop) : ConvW .u64 (I x) H K = K (u64v x) H := by
  show K (.lit (.int .u64 (IntKind.u64.wrap x))) H = _
  rw [wrap_u64 h0 h1]; rfl
theorem ConvW_ui {x : Int} (H : List Blk) (K : AV → List Blk → Prop) : ConvW .i64 (u64v x) H K = K (I (w64 x)) H := (rfl)
theorem ev_u64 (x : Int) (F : Nat → AV) : ev F (.const (.int .u64 x)) = u64v x := (rfl)
theorem shr_u64 (x : Int) (H : List Blk) (K : AV → List Blk → Prop) : BinW .shr (u64v x) (u64v 1) H K = K (u64v (x.fdiv 2)) H := by
  show (0 ≤ (1 : Int) ∧ K (.lit (.int .u64 (x.fdiv (2 ^ (min (1 : Int).toNat 64))))) H) = _
  rw [show (2 : Int) ^ (min (1 : Int).toNat 64) = 2 from rfl]
  simp [u64v]
theorem compare_call : callable Tryz.prog f_slices_Compare_Lint64_int64 = true := by kernel_rfl
theorem BinarySearch_fn (L : List (List Int)) (p : List Int) (ha : Asc cmpL L) (hl : L.length ≤ 1000000) : PFn Tryz.prog f_slices_BinarySearchFunc_LLint64_Lint64_Lint64 [ilSS L, ilS p, .fn f_slices_Compare_Lint64_int64 []] (.tup [I (cntL L p), Bv (decide (p ∈ L))]) := by
  have hcl := cntL_le L p
  intro H; refine ACalls.introB s_slices_BinarySearchFunc_LLint64_Lint64_Lint64 (by simp) ?_; intro hB hA; unfold c_slices_BinarySearchFunc_LLint64_Lint64_Lint64; simp (config := { maxSteps := 1000000 }) (disch := (first | omega | (simp only [go_sem]; try omega))) only [go_sem, Nat.reduceAdd, Nat.reduceEqDiff, Nat.reduceLeDiff, Nat.reduceMul, Nat.reduceLT, reduceIte, Int.reduceToNat, w64_id, cast_succ]
  repeat (first | (with_reducible first | refine SW.seq ?_ | refine SW.block ?_ | refine SW.rowC ?_ | refine SW.skip ?_ | refine SW.exit ?_ | intro _ | refine And.intro (by omega) ?_) | simp (config := { maxSteps := 1000000 }) (disch := (first | omega | (simp only [go_sem]; try omega))) only [go_sem, Nat.reduceAdd, Nat.reduceEqDiff, Nat.reduceLeDiff, Nat.reduceMul, Nat.reduceLT, reduceIte, Int.reduceToNat, w64_id, cast_succ])
  refine SW.loopE (fun E0 H0 q E' H' => ∃ i j : Nat, i ≤ cntL L p ∧ cntL L p ≤ j ∧ j ≤ L.length ∧ q = j - i ∧ E' = aput (aput E0 9 (I i)) 10 (I j) ∧ H' = H0) L.length ⟨0, L.length, by omega, by omega, by omega, by omega, rfl, rfl⟩ ?_
  rintro q E' H' ⟨i, j, hi, hj, hjl, rfl, rfl, rfl⟩
  simp (config := { maxSteps := 1000000 }) (disch := (first | omega | (simp only [go_sem]; try omega))) only [go_sem, Nat.reduceAdd, Nat.reduceEqDiff, Nat.reduceLeDiff, Nat.reduceMul, Nat.reduceLT, reduceIte, Int.reduceToNat, w64_id, cast_succ]
  repeat (first | (with_reducible first | refine SW.seq ?_ | refine SW.block ?_ | refine SW.rowC ?_ | refine SW.skip ?_ | refine SW.exit ?_ | intro _ | refine And.intro (by omega) ?_) | simp (config := { maxSteps := 1000000 }) (disch := (first | omega | (simp only [go_sem]; try omega))) only [go_sem, Nat.reduceAdd, Nat.reduceEqDiff, Nat.reduceLeDiff, Nat.reduceMul, Nat.reduceLT, reduceIte, Int.reduceToNat, w64_id, cast_succ])
  (first | refine SW.condD rfl (fun h2 => ?_) (fun h2 => ?_) | refine SW.condN rfl (fun h2 => ?_) (fun h2 => ?_) | refine SW.condNB rfl (fun h2 => ?_) (fun h2 => ?_) | refine SW.condB rfl (fun h2 => ?_) (fun h2 => ?_))
  · have hf : ((i : Int) + (j : Int)).fdiv 2 = (((i + j) / 2 : Nat) : Int) := by
      rw [Int.fdiv_eq_ediv_of_nonneg _ (by omega)]; omega
    have hh : i ≤ (i + j) / 2 ∧ (i + j) / 2 < j := by omega
    generalize hm : (i + j) / 2 = m at *
    have hml : m < L.length := by omega
    have hgm : L.getD m [] = L[m] := by rw [List.getD_eq_getElem?_getD, List.getElem?_eq_getElem hml]; rfl
    have hlt := cntL_lt (p := p) ha hml
    rw [← hgm] at hlt
    have hcf := slicesCompare_fn (L.getD m []) p
    repeat (first | (with_reducible first | refine SW.seq ?_ | refine SW.block ?_ | refine SW.rowC ?_ | refine SW.skip ?_ | refine SW.exit ?_ | refine PFn.use (hcf) ?_ | refine PFn.useq (hcf) ?_ | intro _ | refine And.intro (by omega) ?_) | simp (config := { maxSteps := 1000000 }) (disch := (first | omega | (simp only [go_sem]; try omega))) only [go_sem, Nat.reduceAdd, Nat.reduceEqDiff, Nat.reduceLeDiff, Nat.reduceMul, Nat.reduceLT, reduceIte, Int.reduceToNat, w64_id, cast_succ, ConvW_u64, ConvW_ui, ev_u64, shr_u64, hf, compare_call])
    by_cases hlm : cmpL (L.getD m []) p < 0
    · have dd := decide_eq_true hlm
      repeat (first | (with_reducible first | refine SW.seq ?_ | refine SW.block ?_ | refine SW.rowC ?_ | refine SW.skip ?_ | refine SW.exit ?_ | intro _ | refine And.intro (by omega) ?_) | simp (config := { maxSteps := 1000000 }) (disch := (first | omega | (simp only [go_sem]; try omega))) only [go_sem, Nat.reduceAdd, Nat.reduceEqDiff, Nat.reduceLeDiff, Nat.reduceMul, Nat.reduceLT, reduceIte, Int.reduceToNat, w64_id, cast_succ, dd])
      refine SW.condT rfl ?_
      repeat (first | (with_reducible first | refine SW.seq ?_ | refine SW.block ?_ | refine SW.rowC ?_ | refine SW.skip ?_ | refine SW.exit ?_ | intro _ | refine And.intro (by omega) ?_) | simp (config := { maxSteps := 1000000 }) (disch := (first | omega | (simp only [go_sem]; try omega))) only [go_sem, Nat.reduceAdd, Nat.reduceEqDiff, Nat.reduceLeDiff, Nat.reduceMul, Nat.reduceLT, reduceIte, Int.reduceToNat, w64_id, cast_succ])
      refine SLoop.next (j - (m + 1)) (by omega) ⟨m + 1, j, hlt.1 hlm, hj, hjl, rfl, by simp [go_sem], rfl⟩
    · have dd := decide_eq_false hlm
      repeat (first | (with_reducible first | refine SW.seq ?_ | refine SW.block ?_ | refine SW.rowC ?_ | refine SW.skip ?_ | refine SW.exit ?_ | intro _ | refine And.intro (by omega) ?_) | simp (config := { maxSteps := 1000000 }) (disch := (first | omega | (simp only [go_sem]; try omega))) only [go_sem, Nat.reduceAdd, Nat.reduceEqDiff, Nat.reduceLeDiff, Nat.reduceMul, Nat.reduceLT, reduceIte, Int.reduceToNat, w64_id, cast_succ, dd])
      refine SW.condF rfl ?_
      repeat (first | (with_reducible first | refine SW.seq ?_ | refine SW.block ?_ | refine SW.rowC ?_ | refine SW.skip ?_ | refine SW.exit ?_ | intro _ | refine And.intro (by omega) ?_) | simp (config := { maxSteps := 1000000 }) (disch := (first | omega | (simp only [go_sem]; try omega))) only [go_sem, Nat.reduceAdd, Nat.reduceEqDiff, Nat.reduceLeDiff, Nat.reduceMul, Nat.reduceLT, reduceIte, Int.reduceToNat, w64_id, cast_succ])
      refine SLoop.next (m - i) (by omega) ⟨i, m, hi, by omega, by omega, rfl, by simp [go_sem], rfl⟩
  · have hij : i = j := by omega
    have hic : i = cntL L p := by omega
    have hmem := cntL_mem (p := p) ha
    subst hic
    by_cases hcn : cntL L p < L.length
    · have dd : decide (((cntL L p : Nat) : Int) < (L.length : Int)) = true := decide_eq_true (by omega)
      have hgm : L.getD (cntL L p) [] = L[cntL L p] := by rw [List.getD_eq_getElem?_getD, List.getElem?_eq_getElem hcn]; rfl
      have hcf := slicesCompare_fn (L.getD (cntL L p) []) p
      have hd : decide (cmpL (L.getD (cntL L p) []) p = 0) = decide (p ∈ L) := by
        rw [decide_eq_decide, hmem, hgm]
        exact ⟨fun h => ⟨hcn, h⟩, fun ⟨_, h⟩ => h⟩
      repeat (first | (with_reducible first | refine SW.seq ?_ | refine SW.block ?_ | refine SW.rowC ?_ | refine SW.skip ?_ | refine SW.exit ?_ | refine PFn.use (hcf) ?_ | refine PFn.useq (hcf) ?_ | intro _ | refine And.intro (by omega) ?_) | simp (config := { maxSteps := 1000000 }) (disch := (first | omega | (simp only [go_sem]; try omega))) only [go_sem, Nat.reduceAdd, Nat.reduceEqDiff, Nat.reduceLeDiff, Nat.reduceMul, Nat.reduceLT, reduceIte, Int.reduceToNat, w64_id, cast_succ, dd, compare_call])
      refine SW.ret ?_; (try simp only [go_sem]); (first | refine FunPost.one ?_ | refine FunPost.two ?_ | refine FunPost.three ?_); (try simp (config := { maxSteps := 1000000 }) (disch := (first | omega | (simp only [go_sem]; try omega))) only [go_sem, Nat.reduceAdd, Nat.reduceEqDiff, Nat.reduceLeDiff, Nat.reduceMul, Nat.reduceLT, reduceIte, Int.reduceToNat, w64_id, cast_succ]); (first | (with_reducible refine GR.drop ?_ ?_; (simp only [go_sem, and_self, and_true, true_and, implies_true, List.take_succ_cons, List.take_zero])) | refine GR.of ?_); refine ⟨?_, rfl⟩; (try with_reducible rfl)
      rw [hd]
    · have dd : decide (((cntL L p : Nat) : Int) < (L.length : Int)) = false := decide_eq_false (by omega)
      have hd : decide (p ∈ L) = false := decide_eq_false (fun h => hcn (hmem.1 h).1)
      repeat (first | (with_reducible first | refine SW.seq ?_ | refine SW.block ?_ | refine SW.rowC ?_ | refine SW.skip ?_ | refine SW.exit ?_ | intro _ | refine And.intro (by omega) ?_) | simp (config := { maxSteps := 1000000 }) (disch := (first | omega | (simp only [go_sem]; try omega))) only [go_sem, Nat.reduceAdd, Nat.reduceEqDiff, Nat.reduceLeDiff, Nat.reduceMul, Nat.reduceLT, reduceIte, Int.reduceToNat, w64_id, cast_succ, dd])
      refine SW.ret ?_; (try simp only [go_sem]); (first | refine FunPost.one ?_ | refine FunPost.two ?_ | refine FunPost.three ?_); (try simp (config := { maxSteps := 1000000 }) (disch := (first | omega | (simp only [go_sem]; try omega))) only [go_sem, Nat.reduceAdd, Nat.reduceEqDiff, Nat.reduceLeDiff, Nat.reduceMul, Nat.reduceLT, reduceIte, Int.reduceToNat, w64_id, cast_succ]); (first | (with_reducible refine GR.drop ?_ ?_; (simp only [go_sem, and_self, and_true, true_and, implies_true, List.take_succ_cons, List.take_zero])) | refine GR.of ?_); refine ⟨?_, rfl⟩; (try with_reducible rfl)
      rw [hd]
end Go.Proofs.YthogadbnddmkdaaGreat
namespace Go.Proofs.YthogadbnddmkdaaGreat
open Go.Av
theorem chosen_ok (H : List Blk) (n : Nat) (els : List (List Int)) (hn1 : 1 ≤ n) (hn : n ≤ 32) (hp : ∀ p ∈ els, permOk n p) (hl : els.length ≤ 720) :
    ACalls Tryz.prog f_impl_chosen [I n, ilSS els] H (fun r H' => ∃ (G A : List (List Int)) (okb : Bool), r = .tup [ilSS G, ilSS A, Bv okb] ∧ (∀ g ∈ G, g ∈ els) ∧ genL n G 720 = (if okb = true then some A else none) ∧ (okb = true → ∀ p ∈ els, p ∈ A) ∧ H' = H) := by
  have h0 := genL_some (genList_nil n) (show [idL n].length ≤ 720 by simp)
  have hc0 := fun H => closure_ok H n nilS [] hn1 hn rfl (by simp) (by simp)
  rw [h0] at hc0
  refine ACalls.introB s_impl_chosen (by simp) ?_; intro hB hA; unfold c_impl_chosen; simp (config := { maxSteps := 1000000 }) (disch := (first | omega | (simp only [go_sem]; try omega))) only [go_sem, Nat.reduceAdd, Nat.reduceEqDiff, Nat.reduceLeDiff, Nat.reduceMul, Nat.reduceLT, reduceIte, Int.reduceToNat, w64_id, cast_succ]
  repeat (first | (with_reducible first | refine SW.seq ?_ | refine SW.block ?_ | refine SW.rowC ?_ | refine SW.skip ?_ | refine SW.exit ?_ | intro _ | refine And.intro (by omega) ?_) | simp (config := { maxSteps := 1000000 }) (disch := (first | omega | (simp only [go_sem]; try omega))) only [go_sem, Nat.reduceAdd, Nat.reduceEqDiff, Nat.reduceLeDiff, Nat.reduceMul, Nat.reduceLT, reduceIte, Int.reduceToNat, w64_id, cast_succ])
  refine ACalls.fn (hc0 _) ?_
  simp only [closAV]
  repeat (first | (with_reducible first | refine SW.seq ?_ | refine SW.block ?_ | refine SW.rowC ?_ | refine SW.skip ?_ | refine SW.exit ?_ | intro _ | refine And.intro (by omega) ?_) | simp (config := { maxSteps := 1000000 }) (disch := (first | omega | (simp only [go_sem]; try omega))) only [go_sem, Nat.reduceAdd, Nat.reduceEqDiff, Nat.reduceLeDiff, Nat.reduceMul, Nat.reduceLT, reduceIte, Int.reduceToNat, w64_id, cast_succ])
  refine SW.ghost (Gh.name 7 tyLL 1 rfl) ?_
  simp (config := { maxSteps := 1000000 }) (disch := (first | omega | (simp only [go_sem]; try omega))) only [go_sem, Nat.reduceAdd, Nat.reduceEqDiff, Nat.reduceLeDiff, Nat.reduceMul, Nat.reduceLT, reduceIte, Int.reduceToNat, w64_id, cast_succ]
  refine SW.loopE (fun E0 H0 q E' H' => ∃ (pre post G A : List (List Int)) (ver : Nat) (okb : Bool), els = pre ++ post ∧ q = post.length ∧ E' = aput (aput (aput (aput E0 21 (I pre.length)) 7 (.nm H.length ver 0 G.length)) 8 (ilSS A)) 9 (Bv okb) ∧ H' = H ++ [⟨ver, tyLL, 1, G.map ilS⟩] ∧ (∀ g ∈ G, g ∈ pre) ∧ G.length ≤ pre.length ∧ genL n G 720 = (if okb = true then some A else none) ∧ (okb = true → ∀ p ∈ pre, p ∈ A) ∧ (okb = false → A = [])) els.length ⟨[], els, [], [idL n], 0, true, rfl, rfl, rfl, rfl, by simp, by simp, h0, by simp, by simp⟩ ?_
  rintro q E' H' ⟨pre, post, G, A, ver, okb, hpp, rfl, rfl, rfl, hGp, hGl, hgl, hAp, hA0⟩
  have hprl : pre.length ≤ 720 := by rw [hpp] at hl; simp at hl; omega
  simp (config := { maxSteps := 1000000 }) (disch := (first | omega | (simp only [go_sem]; try omega))) only [go_sem, Nat.reduceAdd, Nat.reduceEqDiff, Nat.reduceLeDiff, Nat.reduceMul, Nat.reduceLT, reduceIte, Int.reduceToNat, w64_id, cast_succ]
  repeat (first | (with_reducible first | refine SW.seq ?_ | refine SW.block ?_ | refine SW.rowC ?_ | refine SW.skip ?_ | refine SW.exit ?_ | intro _ | refine And.intro (by omega) ?_) | simp (config := { maxSteps := 1000000 }) (disch := (first | omega | (simp only [go_sem]; try omega))) only [go_sem, Nat.reduceAdd, Nat.reduceEqDiff, Nat.reduceLeDiff, Nat.reduceMul, Nat.reduceLT, reduceIte, Int.reduceToNat, w64_id, cast_succ])
  (first | refine SW.condD rfl (fun h2 => ?_) (fun h2 => ?_) | refine SW.condN rfl (fun h2 => ?_) (fun h2 => ?_) | refine SW.condNB rfl (fun h2 => ?_) (fun h2 => ?_) | refine SW.condB rfl (fun h2 => ?_) (fun h2 => ?_))
  · obtain ⟨p, post, rfl, hgp, -⟩ := consOf (d := []) hpp (by omega)
    have hpm : p ∈ els := by rw [hpp]; simp
    have hpo := hp p hpm
    have hAasc : Asc cmpL A ∧ A.length ≤ 720 := by
      cases okb with
      | true =>
        rw [if_pos rfl] at hgl
        exact ⟨(genL_inv hgl).1.1, (genL_inv hgl).2⟩
      | false => rw [hA0 rfl]; exact ⟨.nil, by simp⟩
    have hbs := BinarySearch_fn A p hAasc.1 (by omega)
    have hab : Bel (H.length + 1) (ilSS els) := by rw [Bel_ilSS]; trivial
    have htl : (G.map ilS).take G.length = G.map ilS := List.take_of_length_le (by simp)
    have hGB : ∀ (G : List (List Int)) (c : AV), c ∈ G.map ilS → Bel (H.length + 1) c := fun G c hc => by
      obtain ⟨x, _, rfl⟩ := List.mem_map.1 hc
      rw [Bel_ilS]; trivial
    by_cases hpA : p ∈ A ∨ okb = false
    · have hskip : (∀ g ∈ G, g ∈ pre ++ [p]) ∧ G.length ≤ (pre ++ [p]).length ∧ (okb = true → ∀ q ∈ pre ++ [p], q ∈ A) := by
        refine ⟨fun g hg => List.mem_append_left _ (hGp g hg), by simp; omega, fun ho q hq => ?_⟩
        rcases List.mem_append.1 hq with h | h
        · exact hAp ho q h
        · rw [List.mem_singleton.1 h]
          rcases hpA with h | h
          · exact h
          · rw [ho] at h; cases h
      by_cases hm : p ∈ A
      · have dd := decide_eq_true hm
        repeat (first | (with_reducible first | refine SW.seq ?_ | refine SW.block ?_ | refine SW.rowC ?_ | refine SW.skip ?_ | refine SW.exit ?_ | refine PFn.use (hbs) ?_ | refine PFn.useq (hbs) ?_ | intro _ | refine And.intro (by omega) ?_) | simp (config := { maxSteps := 1000000 }) (disch := (first | omega | (simp only [go_sem]; try omega))) only [go_sem, Nat.reduceAdd, Nat.reduceEqDiff, Nat.reduceLeDiff, Nat.reduceMul, Nat.reduceLT, reduceIte, Int.reduceToNat, w64_id, cast_succ, hgp, dd])
        refine SW.condT rfl ?_
        repeat (first | (with_reducible first | refine SW.seq ?_ | refine SW.block ?_ | refine SW.rowC ?_ | refine SW.skip ?_ | refine SW.exit ?_ | intro _ | refine And.intro (by omega) ?_) | simp (config := { maxSteps := 1000000 }) (disch := (first | omega | (simp only [go_sem]; try omega))) only [go_sem, Nat.reduceAdd, Nat.reduceEqDiff, Nat.reduceLeDiff, Nat.reduceMul, Nat.reduceLT, reduceIte, Int.reduceToNat, w64_id, cast_succ])
        refine SLoop.next post.length (by simp) ⟨pre ++ [p], post, G, A, ver, okb, by simp [hpp], rfl, by simp [go_sem], rfl, hskip.1, hskip.2.1, hgl, hskip.2.2, hA0⟩
      · have dd := decide_eq_false hm
        have ho : okb = false := hpA.resolve_left hm
        subst ho
        repeat (first | (with_reducible first | refine SW.seq ?_ | refine SW.block ?_ | refine SW.rowC ?_ | refine SW.skip ?_ | refine SW.exit ?_ | refine PFn.use (hbs) ?_ | refine PFn.useq (hbs) ?_ | intro _ | refine And.intro (by omega) ?_) | simp (config := { maxSteps := 1000000 }) (disch := (first | omega | (simp only [go_sem]; try omega))) only [go_sem, Nat.reduceAdd, Nat.reduceEqDiff, Nat.reduceLeDiff, Nat.reduceMul, Nat.reduceLT, reduceIte, Int.reduceToNat, w64_id, cast_succ, hgp, dd])
        refine SW.condT rfl ?_
        repeat (first | (with_reducible first | refine SW.seq ?_ | refine SW.block ?_ | refine SW.rowC ?_ | refine SW.skip ?_ | refine SW.exit ?_ | intro _ | refine And.intro (by omega) ?_) | simp (config := { maxSteps := 1000000 }) (disch := (first | omega | (simp only [go_sem]; try omega))) only [go_sem, Nat.reduceAdd, Nat.reduceEqDiff, Nat.reduceLeDiff, Nat.reduceMul, Nat.reduceLT, reduceIte, Int.reduceToNat, w64_id, cast_succ])
        refine SLoop.next post.length (by simp) ⟨pre ++ [p], post, G, A, ver, false, by simp [hpp], rfl, by simp [go_sem], rfl, hskip.1, hskip.2.1, hgl, hskip.2.2, hA0⟩
    · have hm : p ∉ A := fun h => hpA (.inl h)
      have ho : okb = true := by cases okb with | true => rfl | false => exact absurd (.inr rfl) hpA
      subst ho
      rw [if_pos rfl] at hgl
      have hGL := (genL_inv hgl).1
      have dd := decide_eq_false hm
      have hgo : ∀ g ∈ G ++ [p], permOk n g := fun g hg => by
        rcases List.mem_append.1 hg with h | h
        · exact hp g (by rw [hpp]; exact List.mem_append_left _ (hGp g h))
        · rw [List.mem_singleton.1 h]; exact hpo
      have hGo : ∀ g ∈ G, permOk n g := fun g hg => hgo g (List.mem_append_left _ hg)
      repeat (first | (with_reducible first | refine SW.seq ?_ | refine SW.block ?_ | refine SW.rowC ?_ | refine SW.skip ?_ | refine SW.exit ?_ | refine PFn.use (hbs) ?_ | refine PFn.useq (hbs) ?_ | intro _ | refine And.intro (by omega) ?_) | simp (config := { maxSteps := 1000000 }) (disch := (first | omega | (simp only [go_sem]; try omega))) only [go_sem, Nat.reduceAdd, Nat.reduceEqDiff, Nat.reduceLeDiff, Nat.reduceMul, Nat.reduceLT, reduceIte, Int.reduceToNat, w64_id, cast_succ, hgp, dd])
      refine SW.condF rfl ?_
      repeat (first | (with_reducible first | refine SW.seq ?_ | refine SW.block ?_ | refine SW.rowC ?_ | refine SW.skip ?_ | refine SW.exit ?_ | intro _ | refine And.intro (by omega) ?_) | simp (config := { maxSteps := 1000000 }) (disch := (first | omega | (simp only [go_sem]; try omega))) only [go_sem, Nat.reduceAdd, Nat.reduceEqDiff, Nat.reduceLeDiff, Nat.reduceMul, Nat.reduceLT, reduceIte, Int.reduceToNat, w64_id, cast_succ, htl])
      have hview : aview (H ++ [(⟨ver + 1, tyLL, 1, (G ++ [p]).map ilS⟩ : Blk), ⟨0, tyLL, 1, [ilS p]⟩]) (.nm H.length (ver + 1) 0 (G.length + 1)) = some ((G ++ [p]).length, (G ++ [p]).map ilS) := by
        have := view_nm (H := H ++ [(⟨ver + 1, tyLL, 1, (G ++ [p]).map ilS⟩ : Blk), ⟨0, tyLL, 1, [ilS p]⟩]) (r := H.length) (ver := ver + 1) (ty := tyLL) (cells := (G ++ [p]).map ilS) (n := G.length + 1) (by simp) (by simp)
        rw [this]; simp
      refine ACalls.fn (closure_ok _ n _ (G ++ [p]) hn1 hn hview hgo (by simp; omega)) ?_
      have hG' : (∀ g ∈ G ++ [p], g ∈ pre ++ [p]) ∧ (G ++ [p]).length ≤ (pre ++ [p]).length := by
        refine ⟨fun g hg => ?_, by simp; omega⟩
        rcases List.mem_append.1 hg with h | h
        · exact List.mem_append_left _ (hGp g h)
        · exact List.mem_append_right _ h
      cases hgn : genL n (G ++ [p]) 720 with
      | none =>
        simp only [closAV]
        repeat (first | (with_reducible first | refine SW.seq ?_ | refine SW.block ?_ | refine SW.rowC ?_ | refine SW.skip ?_ | refine SW.exit ?_ | intro _ | refine And.intro (by omega) ?_) | simp (config := { maxSteps := 1000000 }) (disch := (first | omega | (simp only [go_sem]; try omega))) only [go_sem, Nat.reduceAdd, Nat.reduceEqDiff, Nat.reduceLeDiff, Nat.reduceMul, Nat.reduceLT, reduceIte, Int.reduceToNat, w64_id, cast_succ])
        refine SLoop.nextT 1 post.length hB (by omega) (by simp) (by simp) ?_ ?_ ⟨pre ++ [p], post, G ++ [p], [], ver + 1, false, by simp [hpp], rfl, by simp [go_sem], rfl, hG'.1, hG'.2, hgn, by simp, by simp⟩
        · (simp only [go_sem, Nat.reduceAdd, Nat.reduceEqDiff, reduceIte, go_sem, and_self, and_true, true_and, implies_true, List.take_succ_cons, List.take_zero, and_true, true_and]; try omega)
        · simp only [List.take_succ_cons, List.take_zero, BB_cons, BB_nil, and_true]
          exact hGB _
      | some A2 =>
        have hGL2 := (genL_inv hgn).1
        simp only [closAV]
        repeat (first | (with_reducible first | refine SW.seq ?_ | refine SW.block ?_ | refine SW.rowC ?_ | refine SW.skip ?_ | refine SW.exit ?_ | intro _ | refine And.intro (by omega) ?_) | simp (config := { maxSteps := 1000000 }) (disch := (first | omega | (simp only [go_sem]; try omega))) only [go_sem, Nat.reduceAdd, Nat.reduceEqDiff, Nat.reduceLeDiff, Nat.reduceMul, Nat.reduceLT, reduceIte, Int.reduceToNat, w64_id, cast_succ])
        refine SLoop.nextT 1 post.length hB (by omega) (by simp) (by simp) ?_ ?_ ⟨pre ++ [p], post, G ++ [p], A2, ver + 1, true, by simp [hpp], rfl, by simp [go_sem], rfl, hG'.1, hG'.2, hgn, fun _ q hq => ?_, by simp⟩
        · (simp only [go_sem, Nat.reduceAdd, Nat.reduceEqDiff, reduceIte, go_sem, and_self, and_true, true_and, implies_true, List.take_succ_cons, List.take_zero, and_true, true_and]; try omega)
        · simp only [List.take_succ_cons, List.take_zero, BB_cons, BB_nil, and_true]
          exact hGB _
        · rw [hGL2.2]
          rcases List.mem_append.1 hq with h | h
          · exact Gen.mono (fun g hg => List.mem_append_left _ hg) ((hGL.2 q).1 (hAp rfl q h))
          · rw [List.mem_singleton.1 h]; exact Gen.gen hpo (by simp)
  · obtain ⟨rfl, rfl⟩ := nilOf hpp (by omega)
    repeat (first | (with_reducible first | refine SW.seq ?_ | refine SW.block ?_ | refine SW.rowC ?_ | refine SW.skip ?_ | refine SW.exit ?_ | intro _ | refine And.intro (by omega) ?_) | simp (config := { maxSteps := 1000000 }) (disch := (first | omega | (simp only [go_sem]; try omega))) only [go_sem, Nat.reduceAdd, Nat.reduceEqDiff, Nat.reduceLeDiff, Nat.reduceMul, Nat.reduceLT, reduceIte, Int.reduceToNat, w64_id, cast_succ])
    refine SW.ret ?_; (try simp only [go_sem]); (first | refine FunPost.one ?_ | refine FunPost.two ?_ | refine FunPost.three ?_); (try simp (config := { maxSteps := 1000000 }) (disch := (first | omega | (simp only [go_sem]; try omega))) only [go_sem, Nat.reduceAdd, Nat.reduceEqDiff, Nat.reduceLeDiff, Nat.reduceMul, Nat.reduceLT, reduceIte, Int.reduceToNat, w64_id, cast_succ])
    refine GR.froz (r' := .tup [ilSS G, ilSS A, Bv okb]) (.tup _ _ rfl ?_) ⟨G, A, okb, rfl, hGp, hgl, hAp, rfl⟩
    intro j c c' h1 h2
    match j with
    | 0 => simp at h1 h2; subst h1; subst h2; exact froz_rowsS (ver := ver) (ty := tyLL) (by omega) (by simp)
    | 1 => simp at h1 h2; subst h1; subst h2; exact .old _ (by rw [Bel_ilSS]; trivial)
    | 2 => simp at h1 h2; subst h1; subst h2; exact .old _ (.lit _)
    | j + 3 => simp at h1
theorem ascL_snoc {A : Type} {cf : A → A → Int} (h : TotC cf) {l : List A} {x : A} (hl : l.Pairwise fun a b => cf a b < 0) : (l ++ [x]).Pairwise (fun a b => cf a b < 0) ↔ ∀ (y : A), l.getLast? = some y → cf y x < 0 := by
  rw [List.pairwise_append]
  constructor
  · rintro ⟨-, -, h3⟩ y hy
    exact h3 y (List.mem_of_getLast? hy) x (by simp)
  · intro hy
    refine ⟨hl, by simp, fun a ha b hb => ?_⟩
    rw [List.mem_singleton.1 hb]
    rcases List.eq_nil_or_concat l with rfl | ⟨l', z, rfl⟩
    · simp at ha
    · rw [List.concat_eq_append] at hy hl ha
      have hz := hy z (by simp)
      rcases List.mem_append.1 ha with ha | ha
      · exact h.trans _ _ _ ((List.pairwise_append.1 hl).2.2 a ha z (by simp)) hz
      · rw [List.mem_singleton.1 ha]; exact hz
theorem permB_ok {n : Int} {p : List Int} (h0 : 1 ≤ n) (h : (p.length : Int) = n ∧ permB p = true) : permOk n.toNat p := by
  obtain ⟨h1, h2⟩ := h
  unfold permB at h2
  simp only [Bool.and_eq_true, decide_eq_true_eq] at h2
  refine ⟨by omega, h2.2.2, fun x hx => ?_⟩
  have := h2.2.1 x hx
  omega
theorem permOk_B {n : Int} {p : List Int} (h0 : 1 ≤ n) (h32 : n ≤ 32) (h : permOk n.toNat p) : (p.length : Int) = n ∧ permB p = true := by
  have h1 := h.1
  refine ⟨by omega, ?_⟩
  unfold permB
  rw [decide_eq_true (by omega), Bool.true_and, decide_eq_true]
  refine ⟨fun x hx => ?_, h.2.1⟩
  have := h.2.2 x hx
  omega
theorem permsB {n : Int} {els : List (List Int)} (h0 : 1 ≤ n) (h32 : n ≤ 32) : (els.all fun p => decide ((p.length : Int) = n) && permB p) = true ↔ ∀ p ∈ els, permOk n.toNat p := by
  rw [List.all_eq_true]
  constructor
  · intro h p hp
    have := h p hp
    rw [Bool.and_eq_true, decide_eq_true_eq] at this
    exact permB_ok h0 this
  · intro h p hp
    have := permOk_B h0 h32 (h p hp)
    rw [Bool.and_eq_true, decide_eq_true_eq]
    exact this
theorem ValidGroup_fn (n : Int) (els : List (List Int)) (hl : ∀ x ∈ els, x.length ≤ 2000000) (hl2 : els.length ≤ 2000000) : PFn Tryz.prog f_impl_ValidGroup [.agg [I n, ilSS els]] (Bv (grpB n els)) := by
  have hap := arePermutations_fn n els hl
  have hw := within_fn n 1 32
  by_cases c1 : 1 ≤ n ∧ n ≤ 32
  rotate_left
  · have hF : grpB n els = false := grpB_f.2 fun h => c1 h.1
    rw [show (decide (1 ≤ n) && decide (n ≤ 32)) = false by rw [Bool.and_eq_false_iff, decide_eq_false_iff_not, decide_eq_false_iff_not]; omega] at hw
    intro H; refine ACalls.introB s_impl_ValidGroup (by simp) ?_; intro hB hA; unfold c_impl_ValidGroup; simp (config := { maxSteps := 1000000 }) (disch := (first | omega | (simp only [go_sem]; try omega))) only [go_sem, Nat.reduceAdd, Nat.reduceEqDiff, Nat.reduceLeDiff, Nat.reduceMul, Nat.reduceLT, reduceIte, Int.reduceToNat, w64_id, cast_succ]
    repeat (first | (with_reducible first | refine SW.seq ?_ | refine SW.block ?_ | refine SW.rowC ?_ | refine SW.skip ?_ | refine SW.exit ?_ | refine PFn.use (hw) ?_ | refine PFn.useq (hw) ?_ | intro _ | refine And.intro (by omega) ?_) | simp (config := { maxSteps := 1000000 }) (disch := (first | omega | (simp only [go_sem]; try omega))) only [go_sem, Nat.reduceAdd, Nat.reduceEqDiff, Nat.reduceLeDiff, Nat.reduceMul, Nat.reduceLT, reduceIte, Int.reduceToNat, w64_id, cast_succ])
    refine SW.condT rfl ?_
    repeat (first | (with_reducible first | refine SW.seq ?_ | refine SW.block ?_ | refine SW.rowC ?_ | refine SW.skip ?_ | refine SW.exit ?_ | intro _ | refine And.intro (by omega) ?_) | simp (config := { maxSteps := 1000000 }) (disch := (first | omega | (simp only [go_sem]; try omega))) only [go_sem, Nat.reduceAdd, Nat.reduceEqDiff, Nat.reduceLeDiff, Nat.reduceMul, Nat.reduceLT, reduceIte, Int.reduceToNat, w64_id, cast_succ])
    refine SW.ret ?_; (try simp only [go_sem]); (first | refine FunPost.one ?_ | refine FunPost.two ?_ | refine FunPost.three ?_); (try simp (config := { maxSteps := 1000000 }) (disch := (first | omega | (simp only [go_sem]; try omega))) only [go_sem, Nat.reduceAdd, Nat.reduceEqDiff, Nat.reduceLeDiff, Nat.reduceMul, Nat.reduceLT, reduceIte, Int.reduceToNat, w64_id, cast_succ]); (first | (with_reducible refine GR.drop ?_ ?_; (simp only [go_sem, and_self, and_true, true_and, implies_true, List.take_succ_cons, List.take_zero])) | refine GR.of ?_); refine ⟨?_, rfl⟩; (try with_reducible rfl)
    rw [hF]
  rw [show (decide (1 ≤ n) && decide (n ≤ 32)) = true by rw [Bool.and_eq_true, decide_eq_true_eq, decide_eq_true_eq]; omega] at hw
  by_cases c2 : 1 ≤ els.length
  rotate_left
  · have hF : grpB n els = false := grpB_f.2 fun h => c2 h.2.1.1
    have d2 : decide ((els.length : Int) < 1) = true := decide_eq_true (by omega)
    intro H; refine ACalls.introB s_impl_ValidGroup (by simp) ?_; intro hB hA; unfold c_impl_ValidGroup; simp (config := { maxSteps := 1000000 }) (disch := (first | omega | (simp only [go_sem]; try omega))) only [go_sem, Nat.reduceAdd, Nat.reduceEqDiff, Nat.reduceLeDiff, Nat.reduceMul, Nat.reduceLT, reduceIte, Int.reduceToNat, w64_id, cast_succ]
    repeat (first | (with_reducible first | refine SW.seq ?_ | refine SW.block ?_ | refine SW.rowC ?_ | refine SW.skip ?_ | refine SW.exit ?_ | refine PFn.use (hw) ?_ | refine PFn.useq (hw) ?_ | intro _ | refine And.intro (by omega) ?_) | simp (config := { maxSteps := 1000000 }) (disch := (first | omega | (simp only [go_sem]; try omega))) only [go_sem, Nat.reduceAdd, Nat.reduceEqDiff, Nat.reduceLeDiff, Nat.reduceMul, Nat.reduceLT, reduceIte, Int.reduceToNat, w64_id, cast_succ, d2])
    refine SW.condT rfl ?_
    repeat (first | (with_reducible first | refine SW.seq ?_ | refine SW.block ?_ | refine SW.rowC ?_ | refine SW.skip ?_ | refine SW.exit ?_ | intro _ | refine And.intro (by omega) ?_) | simp (config := { maxSteps := 1000000 }) (disch := (first | omega | (simp only [go_sem]; try omega))) only [go_sem, Nat.reduceAdd, Nat.reduceEqDiff, Nat.reduceLeDiff, Nat.reduceMul, Nat.reduceLT, reduceIte, Int.reduceToNat, w64_id, cast_succ])
    refine SW.ret ?_; (try simp only [go_sem]); (first | refine FunPost.one ?_ | refine FunPost.two ?_ | refine FunPost.three ?_); (try simp (config := { maxSteps := 1000000 }) (disch := (first | omega | (simp only [go_sem]; try omega))) only [go_sem, Nat.reduceAdd, Nat.reduceEqDiff, Nat.reduceLeDiff, Nat.reduceMul, Nat.reduceLT, reduceIte, Int.reduceToNat, w64_id, cast_succ]); (first | (with_reducible refine GR.drop ?_ ?_; (simp only [go_sem, and_self, and_true, true_and, implies_true, List.take_succ_cons, List.take_zero])) | refine GR.of ?_); refine ⟨?_, rfl⟩; (try with_reducible rfl)
    rw [hF]
  have d2 : decide ((els.length : Int) < 1) = false := decide_eq_false (by omega)
  by_cases c3 : els.length ≤ 720
  rotate_left
  · have hF : grpB n els = false := grpB_f.2 fun h => c3 h.2.1.2
    have d3 : decide ((720 : Int) < (els.length : Int)) = true := decide_eq_true (by omega)
    intro H; refine ACalls.introB s_impl_ValidGroup (by simp) ?_; intro hB hA; unfold c_impl_ValidGroup; simp (config := { maxSteps := 1000000 }) (disch := (first | omega | (simp only [go_sem]; try omega))) only [go_sem, Nat.reduceAdd, Nat.reduceEqDiff, Nat.reduceLeDiff, Nat.reduceMul, Nat.reduceLT, reduceIte, Int.reduceToNat, w64_id, cast_succ]
    repeat (first | (with_reducible first | refine SW.seq ?_ | refine SW.block ?_ | refine SW.rowC ?_ | refine SW.skip ?_ | refine SW.exit ?_ | refine PFn.use (hw) ?_ | refine PFn.useq (hw) ?_ | intro _ | refine And.intro (by omega) ?_) | simp (config := { maxSteps := 1000000 }) (disch := (first | omega | (simp only [go_sem]; try omega))) only [go_sem, Nat.reduceAdd, Nat.reduceEqDiff, Nat.reduceLeDiff, Nat.reduceMul, Nat.reduceLT, reduceIte, Int.reduceToNat, w64_id, cast_succ, d2, d3])
    refine SW.condT rfl ?_
    repeat (first | (with_reducible first | refine SW.seq ?_ | refine SW.block ?_ | refine SW.rowC ?_ | refine SW.skip ?_ | refine SW.exit ?_ | intro _ | refine And.intro (by omega) ?_) | simp (config := { maxSteps := 1000000 }) (disch := (first | omega | (simp only [go_sem]; try omega))) only [go_sem, Nat.reduceAdd, Nat.reduceEqDiff, Nat.reduceLeDiff, Nat.reduceMul, Nat.reduceLT, reduceIte, Int.reduceToNat, w64_id, cast_succ])
    refine SW.ret ?_; (try simp only [go_sem]); (first | refine FunPost.one ?_ | refine FunPost.two ?_ | refine FunPost.three ?_); (try simp (config := { maxSteps := 1000000 }) (disch := (first | omega | (simp only [go_sem]; try omega))) only [go_sem, Nat.reduceAdd, Nat.reduceEqDiff, Nat.reduceLeDiff, Nat.reduceMul, Nat.reduceLT, reduceIte, Int.reduceToNat, w64_id, cast_succ]); (first | (with_reducible refine GR.drop ?_ ?_; (simp only [go_sem, and_self, and_true, true_and, implies_true, List.take_succ_cons, List.take_zero])) | refine GR.of ?_); refine ⟨?_, rfl⟩; (try with_reducible rfl)
    rw [hF]
  have d3 : decide ((720 : Int) < (els.length : Int)) = false := decide_eq_false (by omega)
  by_cases c4 : ∀ p ∈ els, permOk n.toNat p
  rotate_left
  · have hF : grpB n els = false := grpB_f.2 fun h => c4 h.2.2.1
    rw [show (els.all fun p => decide ((p.length : Int) = n) && permB p) = false by rw [Bool.eq_false_iff]; exact fun h => c4 ((permsB c1.1 c1.2).1 h)] at hap
    intro H; refine ACalls.introB s_impl_ValidGroup (by simp) ?_; intro hB hA; unfold c_impl_ValidGroup; simp (config := { maxSteps := 1000000 }) (disch := (first | omega | (simp only [go_sem]; try omega))) only [go_sem, Nat.reduceAdd, Nat.reduceEqDiff, Nat.reduceLeDiff, Nat.reduceMul, Nat.reduceLT, reduceIte, Int.reduceToNat, w64_id, cast_succ]
    repeat (first | (with_reducible first | refine SW.seq ?_ | refine SW.block ?_ | refine SW.rowC ?_ | refine SW.skip ?_ | refine SW.exit ?_ | refine PFn.use (hw) ?_ | refine PFn.useq (hw) ?_ | refine PFn.use (hap) ?_ | refine PFn.useq (hap) ?_ | intro _ | refine And.intro (by omega) ?_) | simp (config := { maxSteps := 1000000 }) (disch := (first | omega | (simp only [go_sem]; try omega))) only [go_sem, Nat.reduceAdd, Nat.reduceEqDiff, Nat.reduceLeDiff, Nat.reduceMul, Nat.reduceLT, reduceIte, Int.reduceToNat, w64_id, cast_succ, d2, d3])
    refine SW.condT rfl ?_
    repeat (first | (with_reducible first | refine SW.seq ?_ | refine SW.block ?_ | refine SW.rowC ?_ | refine SW.skip ?_ | refine SW.exit ?_ | intro _ | refine And.intro (by omega) ?_) | simp (config := { maxSteps := 1000000 }) (disch := (first | omega | (simp only [go_sem]; try omega))) only [go_sem, Nat.reduceAdd, Nat.reduceEqDiff, Nat.reduceLeDiff, Nat.reduceMul, Nat.reduceLT, reduceIte, Int.reduceToNat, w64_id, cast_succ])
    refine SW.ret ?_; (try simp only [go_sem]); (first | refine FunPost.one ?_ | refine FunPost.two ?_ | refine FunPost.three ?_); (try simp (config := { maxSteps := 1000000 }) (disch := (first | omega | (simp only [go_sem]; try omega))) only [go_sem, Nat.reduceAdd, Nat.reduceEqDiff, Nat.reduceLeDiff, Nat.reduceMul, Nat.reduceLT, reduceIte, Int.reduceToNat, w64_id, cast_succ]); (first | (with_reducible refine GR.drop ?_ ?_; (simp only [go_sem, and_self, and_true, true_and, implies_true, List.take_succ_cons, List.take_zero])) | refine GR.of ?_); refine ⟨?_, rfl⟩; (try with_reducible rfl)
    rw [hF]
  rw [(permsB c1.1 c1.2).2 c4] at hap
  intro H; refine ACalls.introB s_impl_ValidGroup (by simp) ?_; intro hB hA; unfold c_impl_ValidGroup; simp (config := { maxSteps := 1000000 }) (disch := (first | omega | (simp only [go_sem]; try omega))) only [go_sem, Nat.reduceAdd, Nat.reduceEqDiff, Nat.reduceLeDiff, Nat.reduceMul, Nat.reduceLT, reduceIte, Int.reduceToNat, w64_id, cast_succ]
  repeat (first | (with_reducible first | refine SW.seq ?_ | refine SW.block ?_ | refine SW.rowC ?_ | refine SW.skip ?_ | refine SW.exit ?_ | refine PFn.use (hw) ?_ | refine PFn.useq (hw) ?_ | refine PFn.use (hap) ?_ | refine PFn.useq (hap) ?_ | intro _ | refine And.intro (by omega) ?_) | simp (config := { maxSteps := 1000000 }) (disch := (first | omega | (simp only [go_sem]; try omega))) only [go_sem, Nat.reduceAdd, Nat.reduceEqDiff, Nat.reduceLeDiff, Nat.reduceMul, Nat.reduceLT, reduceIte, Int.reduceToNat, w64_id, cast_succ, d2, d3])
  refine SW.condF rfl ?_
  repeat (first | (with_reducible first | refine SW.seq ?_ | refine SW.block ?_ | refine SW.rowC ?_ | refine SW.skip ?_ | refine SW.exit ?_ | intro _ | refine And.intro (by omega) ?_) | simp (config := { maxSteps := 1000000 }) (disch := (first | omega | (simp only [go_sem]; try omega))) only [go_sem, Nat.reduceAdd, Nat.reduceEqDiff, Nat.reduceLeDiff, Nat.reduceMul, Nat.reduceLT, reduceIte, Int.reduceToNat, w64_id, cast_succ])
  refine SW.loopE (fun E0 H0 q E' H' => ∃ k : Nat, 1 ≤ k ∧ k ≤ els.length ∧ q = els.length - k ∧ E' = aput E0 3 (I k) ∧ H' = H0 ∧ Asc cmpL (els.take k)) (els.length - 1) ⟨1, by omega, by omega, rfl, rfl, rfl, ?_⟩ ?_
  · rw [List.take_one]
    cases els <;> simp [Asc]
  rintro q E' H' ⟨k, hk1, hkl, rfl, rfl, rfl, hasc⟩
  simp (config := { maxSteps := 1000000 }) (disch := (first | omega | (simp only [go_sem]; try omega))) only [go_sem, Nat.reduceAdd, Nat.reduceEqDiff, Nat.reduceLeDiff, Nat.reduceMul, Nat.reduceLT, reduceIte, Int.reduceToNat, w64_id, cast_succ]
  repeat (first | (with_reducible first | refine SW.seq ?_ | refine SW.block ?_ | refine SW.rowC ?_ | refine SW.skip ?_ | refine SW.exit ?_ | intro _ | refine And.intro (by omega) ?_) | simp (config := { maxSteps := 1000000 }) (disch := (first | omega | (simp only [go_sem]; try omega))) only [go_sem, Nat.reduceAdd, Nat.reduceEqDiff, Nat.reduceLeDiff, Nat.reduceMul, Nat.reduceLT, reduceIte, Int.reduceToNat, w64_id, cast_succ])
  (first | refine SW.condD rfl (fun h2 => ?_) (fun h2 => ?_) | refine SW.condN rfl (fun h2 => ?_) (fun h2 => ?_) | refine SW.condNB rfl (fun h2 => ?_) (fun h2 => ?_) | refine SW.condB rfl (fun h2 => ?_) (fun h2 => ?_))
  · have hklt : k < els.length := by omega
    have e1 : (k : Int) - 1 = ((k - 1 : Nat) : Int) := by omega
    have hcf := slicesCompare_fn (els.getD (k - 1) []) (els.getD k [])
    have hgk : els.getD k [] = els[k] := by rw [List.getD_eq_getElem?_getD, List.getElem?_eq_getElem hklt]; rfl
    have hgk1 : els.getD (k - 1) [] = els[k - 1] := by rw [List.getD_eq_getElem?_getD, List.getElem?_eq_getElem (by omega)]; rfl
    by_cases hc : cmpL (els.getD (k - 1) []) (els.getD k []) < 0
    · have dd : decide (0 ≤ cmpL (els.getD (k - 1) []) (els.getD k [])) = false := decide_eq_false (by omega)
      repeat (first | (with_reducible first | refine SW.seq ?_ | refine SW.block ?_ | refine SW.rowC ?_ | refine SW.skip ?_ | refine SW.exit ?_ | refine PFn.use (hcf) ?_ | refine PFn.useq (hcf) ?_ | intro _ | refine And.intro (by omega) ?_) | simp (config := { maxSteps := 1000000 }) (disch := (first | omega | (simp only [go_sem]; try omega))) only [go_sem, Nat.reduceAdd, Nat.reduceEqDiff, Nat.reduceLeDiff, Nat.reduceMul, Nat.reduceLT, reduceIte, Int.reduceToNat, w64_id, cast_succ, e1, dd])
      refine SW.condF rfl ?_
      repeat (first | (with_reducible first | refine SW.seq ?_ | refine SW.block ?_ | refine SW.rowC ?_ | refine SW.skip ?_ | refine SW.exit ?_ | intro _ | refine And.intro (by omega) ?_) | simp (config := { maxSteps := 1000000 }) (disch := (first | omega | (simp only [go_sem]; try omega))) only [go_sem, Nat.reduceAdd, Nat.reduceEqDiff, Nat.reduceLeDiff, Nat.reduceMul, Nat.reduceLT, reduceIte, Int.reduceToNat, w64_id, cast_succ])
      refine SLoop.next (els.length - (k + 1)) (by omega) ⟨k + 1, by omega, by omega, rfl, by simp [go_sem], rfl, ?_⟩
      rw [List.take_add_one, List.getElem?_eq_getElem hklt]
      have hlast : (els.take k).getLast? = some els[k - 1] := by
        rw [List.getLast?_eq_getElem?, List.length_take, Nat.min_eq_left hkl, List.getElem?_take_of_lt (by omega), List.getElem?_eq_getElem (by omega)]
      refine (ascL_snoc cmpL_tot hasc).2 fun y hy => ?_
      rw [hlast] at hy
      cases hy
      rw [← hgk1, ← hgk]; exact hc
    · have dd : decide (0 ≤ cmpL (els.getD (k - 1) []) (els.getD k [])) = true := decide_eq_true (by omega)
      have hF : grpB n els = false := grpB_f.2 fun h => by
        have := List.pairwise_iff_getElem.1 h.2.2.2.1 (k - 1) k (by omega) hklt (by omega)
        rw [← hgk, ← hgk1] at this
        exact hc this
      repeat (first | (with_reducible first | refine SW.seq ?_ | refine SW.block ?_ | refine SW.rowC ?_ | refine SW.skip ?_ | refine SW.exit ?_ | refine PFn.use (hcf) ?_ | refine PFn.useq (hcf) ?_ | intro _ | refine And.intro (by omega) ?_) | simp (config := { maxSteps := 1000000 }) (disch := (first | omega | (simp only [go_sem]; try omega))) only [go_sem, Nat.reduceAdd, Nat.reduceEqDiff, Nat.reduceLeDiff, Nat.reduceMul, Nat.reduceLT, reduceIte, Int.reduceToNat, w64_id, cast_succ, e1, dd])
      refine SW.condT rfl ?_
      repeat (first | (with_reducible first | refine SW.seq ?_ | refine SW.block ?_ | refine SW.rowC ?_ | refine SW.skip ?_ | refine SW.exit ?_ | intro _ | refine And.intro (by omega) ?_) | simp (config := { maxSteps := 1000000 }) (disch := (first | omega | (simp only [go_sem]; try omega))) only [go_sem, Nat.reduceAdd, Nat.reduceEqDiff, Nat.reduceLeDiff, Nat.reduceMul, Nat.reduceLT, reduceIte, Int.reduceToNat, w64_id, cast_succ])
      refine SW.ret ?_; (try simp only [go_sem]); (first | refine FunPost.one ?_ | refine FunPost.two ?_ | refine FunPost.three ?_); (try simp (config := { maxSteps := 1000000 }) (disch := (first | omega | (simp only [go_sem]; try omega))) only [go_sem, Nat.reduceAdd, Nat.reduceEqDiff, Nat.reduceLeDiff, Nat.reduceMul, Nat.reduceLT, reduceIte, Int.reduceToNat, w64_id, cast_succ]); (first | (with_reducible refine GR.drop ?_ ?_; (simp only [go_sem, and_self, and_true, true_and, implies_true, List.take_succ_cons, List.take_zero])) | refine GR.of ?_); refine ⟨?_, rfl⟩; (try with_reducible rfl)
      rw [hF]
  · have : k = els.length := by omega
    subst this
    rw [List.take_length] at hasc
    have en : n = ((n.toNat : Nat) : Int) := by omega
    have hch := fun H => chosen_ok H n.toNat els (by omega) (by omega) c4 c3
    rw [← en] at hch
    repeat (first | (with_reducible first | refine SW.seq ?_ | refine SW.block ?_ | refine SW.rowC ?_ | refine SW.skip ?_ | refine SW.exit ?_ | intro _ | refine And.intro (by omega) ?_) | simp (config := { maxSteps := 1000000 }) (disch := (first | omega | (simp only [go_sem]; try omega))) only [go_sem, Nat.reduceAdd, Nat.reduceEqDiff, Nat.reduceLeDiff, Nat.reduceMul, Nat.reduceLT, reduceIte, Int.reduceToNat, w64_id, cast_succ])
    refine (hch _).mono ?_
    rintro r H' ⟨G, A, okb, rfl, hG, hgl, hall, rfl⟩
    have hfin : grpB n els = (okb && decide (A.length = els.length)) := by
      cases okb with
      | true =>
        rw [if_pos rfl] at hgl
        have hGL := (genL_inv hgl).1
        have hci := closed_iff c4 hasc hG hGL (hall rfl)
        rw [Bool.true_and, Bool.eq_iff_iff, grpB_t, decide_eq_true_eq, ← hci]
        exact ⟨fun h => h.2.2.2.2, fun h => ⟨c1, ⟨c2, c3⟩, c4, hasc, h⟩⟩
      | false =>
        rw [if_neg (by simp)] at hgl
        rw [Bool.false_and, grpB_f]
        intro h
        obtain ⟨L, hL, _⟩ := closed_small h.2.2.2.2 hasc hG c3
        rw [hgl] at hL; cases hL
    rw [hfin]
    cases okb with
    | true =>
      have hd : decide (((A.length : Nat) : Int) = ((els.length : Nat) : Int)) = decide (A.length = els.length) := decide_eq_decide.2 (by omega)
      repeat (first | (with_reducible first | refine SW.seq ?_ | refine SW.block ?_ | refine SW.rowC ?_ | refine SW.skip ?_ | refine SW.exit ?_ | intro _ | refine And.intro (by omega) ?_) | simp (config := { maxSteps := 1000000 }) (disch := (first | omega | (simp only [go_sem]; try omega))) only [go_sem, Nat.reduceAdd, Nat.reduceEqDiff, Nat.reduceLeDiff, Nat.reduceMul, Nat.reduceLT, reduceIte, Int.reduceToNat, w64_id, cast_succ, hd])
      refine SW.ret ?_; (try simp only [go_sem]); (first | refine FunPost.one ?_ | refine FunPost.two ?_ | refine FunPost.three ?_); (try simp (config := { maxSteps := 1000000 }) (disch := (first | omega | (simp only [go_sem]; try omega))) only [go_sem, Nat.reduceAdd, Nat.reduceEqDiff, Nat.reduceLeDiff, Nat.reduceMul, Nat.reduceLT, reduceIte, Int.reduceToNat, w64_id, cast_succ]); (first | (with_reducible refine GR.drop ?_ ?_; (simp only [go_sem, and_self, and_true, true_and, implies_true, List.take_succ_cons, List.take_zero])) | refine GR.of ?_); refine ⟨?_, rfl⟩; (try with_reducible rfl)
    | false =>
      repeat (first | (with_reducible first | refine SW.seq ?_ | refine SW.block ?_ | refine SW.rowC ?_ | refine SW.skip ?_ | refine SW.exit ?_ | intro _ | refine And.intro (by omega) ?_) | simp (config := { maxSteps := 1000000 }) (disch := (first | omega | (simp only [go_sem]; try omega))) only [go_sem, Nat.reduceAdd, Nat.reduceEqDiff, Nat.reduceLeDiff, Nat.reduceMul, Nat.reduceLT, reduceIte, Int.reduceToNat, w64_id, cast_succ])
      refine SW.ret ?_; (try simp only [go_sem]); (first | refine FunPost.one ?_ | refine FunPost.two ?_ | refine FunPost.three ?_); (try simp (config := { maxSteps := 1000000 }) (disch := (first | omega | (simp only [go_sem]; try omega))) only [go_sem, Nat.reduceAdd, Nat.reduceEqDiff, Nat.reduceLeDiff, Nat.reduceMul, Nat.reduceLT, reduceIte, Int.reduceToNat, w64_id, cast_succ]); (first | (with_reducible refine GR.drop ?_ ?_; (simp only [go_sem, and_self, and_true, true_and, implies_true, List.take_succ_cons, List.take_zero])) | refine GR.of ?_); refine ⟨?_, rfl⟩; (try with_reducible rfl)
end Go.Proofs.YthogadbnddmkdaaGreat
namespace Go.Proofs.YthogadbnddmkdaaGreat
open Go.Av
theorem slcRows {H : List Blk} (K : AV → Prop) (xs : List (List Int)) (z y : Int) (h0 : 0 ≤ z) (h1 : z ≤ y) (h2 : y ≤ xs.length) : SlcG 1 (ilSS xs) z y H K (some (xs.length, xs.map ilS)) = K (ilSS ((xs.drop z.toNat).take (y.toNat - z.toNat))) := by
  unfold ilSS
  rw [SlcG_il (h0 := h0) (h1 := h1) (h2 := h2)]
  simp only [Nat.mul_one, ← List.map_drop, ← List.map_take, List.length_take, List.length_drop]
  rw [Nat.min_eq_left (by omega)]
theorem ren_oneS {H bs : List Blk} {i ver ty : Nat} {xss : List (List Int)} (hi : H.length ≤ i) (h : (H ++ bs)[i]? = some ⟨ver, ty, 1, xss.map ilS⟩) : RenOk (H ++ bs) H.length [some i] [⟨0, ty, 1, xss.map ilS⟩] := by
  refine ⟨rfl, ?_, ?_, ?_⟩
  · intro p q j hp hq
    have h1 := (List.getElem?_eq_some_iff.1 hp).1
    have h2 := (List.getElem?_eq_some_iff.1 hq).1
    simp at h1 h2; omega
  · intro p j nb hp hn
    have h1 := (List.getElem?_eq_some_iff.1 hp).1
    have : p = 0 := by simp at h1; omega
    subst this
    simp at hp hn
    subst hp; subst hn
    refine ⟨_, hi, h, by simp, rfl, rfl, rfl, Nat.le_refl _, fun i c' hc => ⟨c', hc, ?_⟩⟩
    obtain ⟨x, _, rfl⟩ := List.mem_map.1 (List.mem_of_getElem? hc)
    exact ren_ilS x
  · intro p nb hp
    have h1 := (List.getElem?_eq_some_iff.1 hp).1
    have : p = 0 := by simp at h1; omega
    subst this
    simp at hp
theorem SW.keepS {P : Program} {n k0 : Nat} {c : SC} {Q : SX → Env → List Blk → Prop} {E E' : Env} {H bs : List Blk} {i ver ty : Nat} {xss : List (List Int)} (hB : HB H) (h0 : k0 ≤ H.length) (hi : H.length ≤ i) (h : (H ++ bs)[i]? = some ⟨ver, ty, 1, xss.map ilS⟩)
    (hE : RE (H ++ bs) H.length [some i] E E') (hk : Go.Av.SW P n k0 c Q E' (H ++ [⟨0, ty, 1, xss.map ilS⟩])) : Go.Av.SW P n k0 c Q E (H ++ bs) := by
  have g := Gh.ren (k0 := k0) (k := H.length) h0 (by simp) (ren_oneS hi h) (by rw [List.take_left]; exact hB) (fun j => hE.get j)
  rw [List.take_left] at g
  exact Go.Av.SW.ghost g hk
theorem l05Find_fn (L : List (List Int)) (p : List Int) (ha : Asc cmpL L) (hl : L.length ≤ 1000000) : PFn Tryz.prog f_spec_l05Find [ilSS L, ilS p] (.tup [I (cntL L p), Bv (decide (p ∈ L))]) := by
  have hcl := cntL_le L p
  have hmem := cntL_mem (p := p) ha
  intro H; refine ACalls.introB s_spec_l05Find (by simp) ?_; intro hB hA; unfold c_spec_l05Find; simp (config := { maxSteps := 1000000 }) (disch := (first | omega | (simp only [go_sem]; try omega))) only [go_sem, Nat.reduceAdd, Nat.reduceEqDiff, Nat.reduceLeDiff, Nat.reduceMul, Nat.reduceLT, reduceIte, Int.reduceToNat, w64_id, cast_succ]
  repeat (first | (with_reducible first | refine SW.seq ?_ | refine SW.block ?_ | refine SW.rowC ?_ | refine SW.skip ?_ | refine SW.exit ?_ | intro _ | refine And.intro (by omega) ?_) | simp (config := { maxSteps := 1000000 }) (disch := (first | omega | (simp only [go_sem]; try omega))) only [go_sem, Nat.reduceAdd, Nat.reduceEqDiff, Nat.reduceLeDiff, Nat.reduceMul, Nat.reduceLT, reduceIte, Int.reduceToNat, w64_id, cast_succ])
  refine SW.loopE (fun E0 H0 q E' H' => ∃ i j : Nat, i ≤ cntL L p ∧ cntL L p ≤ j ∧ j ≤ L.length ∧ q = j - i ∧ E' = aput (aput E0 6 (I i)) 7 (I j) ∧ H' = H0 ∧ (p ∈ L → cntL L p < j)) L.length ⟨0, L.length, by omega, by omega, by omega, by omega, rfl, rfl, fun h => (hmem.1 h).1⟩ ?_
  rintro q E' H' ⟨i, j, hi, hj, hjl, rfl, rfl, rfl, hin⟩
  simp (config := { maxSteps := 1000000 }) (disch := (first | omega | (simp only [go_sem]; try omega))) only [go_sem, Nat.reduceAdd, Nat.reduceEqDiff, Nat.reduceLeDiff, Nat.reduceMul, Nat.reduceLT, reduceIte, Int.reduceToNat, w64_id, cast_succ]
  repeat (first | (with_reducible first | refine SW.seq ?_ | refine SW.block ?_ | refine SW.rowC ?_ | refine SW.skip ?_ | refine SW.exit ?_ | intro _ | refine And.intro (by omega) ?_) | simp (config := { maxSteps := 1000000 }) (disch := (first | omega | (simp only [go_sem]; try omega))) only [go_sem, Nat.reduceAdd, Nat.reduceEqDiff, Nat.reduceLeDiff, Nat.reduceMul, Nat.reduceLT, reduceIte, Int.reduceToNat, w64_id, cast_succ])
  (first | refine SW.condD rfl (fun h2 => ?_) (fun h2 => ?_) | refine SW.condN rfl (fun h2 => ?_) (fun h2 => ?_) | refine SW.condNB rfl (fun h2 => ?_) (fun h2 => ?_) | refine SW.condB rfl (fun h2 => ?_) (fun h2 => ?_))
  · have hf : ((i : Int) + (j : Int)).tdiv 2 = (((i + j) / 2 : Nat) : Int) := by
      rw [Int.tdiv_eq_ediv_of_nonneg (by omega)]; omega
    have hh : i ≤ (i + j) / 2 ∧ (i + j) / 2 < j := by omega
    generalize hm : (i + j) / 2 = m at *
    have hml : m < L.length := by omega
    have hgm : L.getD m [] = L[m] := by rw [List.getD_eq_getElem?_getD, List.getElem?_eq_getElem hml]; rfl
    have hlt := cntL_lt (p := p) ha hml
    rw [← hgm] at hlt
    have hcf := CompareLists_fn (L.getD m []) p
    repeat (first | (with_reducible first | refine SW.seq ?_ | refine SW.block ?_ | refine SW.rowC ?_ | refine SW.skip ?_ | refine SW.exit ?_ | refine PFn.use (hcf) ?_ | refine PFn.useq (hcf) ?_ | intro _ | refine And.intro (by omega) ?_) | simp (config := { maxSteps := 1000000 }) (disch := (first | omega | (simp only [go_sem]; try omega))) only [go_sem, Nat.reduceAdd, Nat.reduceEqDiff, Nat.reduceLeDiff, Nat.reduceMul, Nat.reduceLT, reduceIte, Int.reduceToNat, w64_id, cast_succ, hf])
    by_cases h0 : cmpL (L.getD m []) p = 0
    · have dd := decide_eq_true h0
      repeat (first | (with_reducible first | refine SW.seq ?_ | refine SW.block ?_ | refine SW.rowC ?_ | refine SW.skip ?_ | refine SW.exit ?_ | intro _ | refine And.intro (by omega) ?_) | simp (config := { maxSteps := 1000000 }) (disch := (first | omega | (simp only [go_sem]; try omega))) only [go_sem, Nat.reduceAdd, Nat.reduceEqDiff, Nat.reduceLeDiff, Nat.reduceMul, Nat.reduceLT, reduceIte, Int.reduceToNat, w64_id, cast_succ, dd])
      refine SW.condT rfl ?_
      have hpm : p ∈ L := by
        rw [← (cmpL_eq0 _ _).1 h0, hgm]; exact List.getElem_mem _
      have hmc : m = cntL L p := by
        rcases Nat.lt_or_ge (cntL L p) m with h | h
        · exfalso
          have h5 := cntL_lt (p := p) ha (h := cntL L p) (by omega)
          have h6 := List.pairwise_iff_getElem.1 ha (cntL L p) m (by omega) hml h
          rw [hgm] at h0
          rw [(cmpL_eq0 _ _).1 h0] at h6
          have := h5.1 h6
          omega
        · rcases Nat.lt_or_eq_of_le h with h7 | h7
          · have := hlt.2 h7; omega
          · exact h7
      repeat (first | (with_reducible first | refine SW.seq ?_ | refine SW.block ?_ | refine SW.rowC ?_ | refine SW.skip ?_ | refine SW.exit ?_ | intro _ | refine And.intro (by omega) ?_) | simp (config := { maxSteps := 1000000 }) (disch := (first | omega | (simp only [go_sem]; try omega))) only [go_sem, Nat.reduceAdd, Nat.reduceEqDiff, Nat.reduceLeDiff, Nat.reduceMul, Nat.reduceLT, reduceIte, Int.reduceToNat, w64_id, cast_succ])
      refine SW.ret ?_; (try simp only [go_sem]); (first | refine FunPost.one ?_ | refine FunPost.two ?_ | refine FunPost.three ?_); (try simp (config := { maxSteps := 1000000 }) (disch := (first | omega | (simp only [go_sem]; try omega))) only [go_sem, Nat.reduceAdd, Nat.reduceEqDiff, Nat.reduceLeDiff, Nat.reduceMul, Nat.reduceLT, reduceIte, Int.reduceToNat, w64_id, cast_succ]); (first | (with_reducible refine GR.drop ?_ ?_; (simp only [go_sem, and_self, and_true, true_and, implies_true, List.take_succ_cons, List.take_zero])) | refine GR.of ?_); refine ⟨?_, rfl⟩; (try with_reducible rfl)
      rw [hmc, decide_eq_true hpm]
    · have dd := decide_eq_false h0
      repeat (first | (with_reducible first | refine SW.seq ?_ | refine SW.block ?_ | refine SW.rowC ?_ | refine SW.skip ?_ | refine SW.exit ?_ | intro _ | refine And.intro (by omega) ?_) | simp (config := { maxSteps := 1000000 }) (disch := (first | omega | (simp only [go_sem]; try omega))) only [go_sem, Nat.reduceAdd, Nat.reduceEqDiff, Nat.reduceLeDiff, Nat.reduceMul, Nat.reduceLT, reduceIte, Int.reduceToNat, w64_id, cast_succ, dd])
      refine SW.condF rfl ?_
      repeat (first | (with_reducible first | refine SW.seq ?_ | refine SW.block ?_ | refine SW.rowC ?_ | refine SW.skip ?_ | refine SW.exit ?_ | intro _ | refine And.intro (by omega) ?_) | simp (config := { maxSteps := 1000000 }) (disch := (first | omega | (simp only [go_sem]; try omega))) only [go_sem, Nat.reduceAdd, Nat.reduceEqDiff, Nat.reduceLeDiff, Nat.reduceMul, Nat.reduceLT, reduceIte, Int.reduceToNat, w64_id, cast_succ])
      by_cases hlm : cmpL (L.getD m []) p < 0
      · have d2 := decide_eq_true hlm
        repeat (first | (with_reducible first | refine SW.seq ?_ | refine SW.block ?_ | refine SW.rowC ?_ | refine SW.skip ?_ | refine SW.exit ?_ | intro _ | refine And.intro (by omega) ?_) | simp (config := { maxSteps := 1000000 }) (disch := (first | omega | (simp only [go_sem]; try omega))) only [go_sem, Nat.reduceAdd, Nat.reduceEqDiff, Nat.reduceLeDiff, Nat.reduceMul, Nat.reduceLT, reduceIte, Int.reduceToNat, w64_id, cast_succ, d2])
        refine SW.condT rfl ?_
        repeat (first | (with_reducible first | refine SW.seq ?_ | refine SW.block ?_ | refine SW.rowC ?_ | refine SW.skip ?_ | refine SW.exit ?_ | intro _ | refine And.intro (by omega) ?_) | simp (config := { maxSteps := 1000000 }) (disch := (first | omega | (simp only [go_sem]; try omega))) only [go_sem, Nat.reduceAdd, Nat.reduceEqDiff, Nat.reduceLeDiff, Nat.reduceMul, Nat.reduceLT, reduceIte, Int.reduceToNat, w64_id, cast_succ])
        refine SLoop.next (j - (m + 1)) (by omega) ⟨m + 1, j, hlt.1 hlm, hj, hjl, rfl, by simp [go_sem], rfl, hin⟩
      · have d2 := decide_eq_false hlm
        repeat (first | (with_reducible first | refine SW.seq ?_ | refine SW.block ?_ | refine SW.rowC ?_ | refine SW.skip ?_ | refine SW.exit ?_ | intro _ | refine And.intro (by omega) ?_) | simp (config := { maxSteps := 1000000 }) (disch := (first | omega | (simp only [go_sem]; try omega))) only [go_sem, Nat.reduceAdd, Nat.reduceEqDiff, Nat.reduceLeDiff, Nat.reduceMul, Nat.reduceLT, reduceIte, Int.reduceToNat, w64_id, cast_succ, d2])
        refine SW.condF rfl ?_
        repeat (first | (with_reducible first | refine SW.seq ?_ | refine SW.block ?_ | refine SW.rowC ?_ | refine SW.skip ?_ | refine SW.exit ?_ | intro _ | refine And.intro (by omega) ?_) | simp (config := { maxSteps := 1000000 }) (disch := (first | omega | (simp only [go_sem]; try omega))) only [go_sem, Nat.reduceAdd, Nat.reduceEqDiff, Nat.reduceLeDiff, Nat.reduceMul, Nat.reduceLT, reduceIte, Int.reduceToNat, w64_id, cast_succ])
        refine SLoop.next (m - i) (by omega) ⟨i, m, hi, by omega, by omega, rfl, by simp [go_sem], rfl, fun hp => ?_⟩
        rcases Nat.lt_or_eq_of_le (show cntL L p ≤ m by omega) with h | h
        · exact h
        · exfalso
          obtain ⟨h8, h9⟩ := hmem.1 hp
          refine h0 ?_
          rw [hgm, ← h9]
          simp only [h]
  · have hij : i = j := by omega
    have hic : i = cntL L p := by omega
    repeat (first | (with_reducible first | refine SW.seq ?_ | refine SW.block ?_ | refine SW.rowC ?_ | refine SW.skip ?_ | refine SW.exit ?_ | intro _ | refine And.intro (by omega) ?_) | simp (config := { maxSteps := 1000000 }) (disch := (first | omega | (simp only [go_sem]; try omega))) only [go_sem, Nat.reduceAdd, Nat.reduceEqDiff, Nat.reduceLeDiff, Nat.reduceMul, Nat.reduceLT, reduceIte, Int.reduceToNat, w64_id, cast_succ])
    refine SW.ret ?_; (try simp only [go_sem]); (first | refine FunPost.one ?_ | refine FunPost.two ?_ | refine FunPost.three ?_); (try simp (config := { maxSteps := 1000000 }) (disch := (first | omega | (simp only [go_sem]; try omega))) only [go_sem, Nat.reduceAdd, Nat.reduceEqDiff, Nat.reduceLeDiff, Nat.reduceMul, Nat.reduceLT, reduceIte, Int.reduceToNat, w64_id, cast_succ]); (first | (with_reducible refine GR.drop ?_ ?_; (simp only [go_sem, and_self, and_true, true_and, implies_true, List.take_succ_cons, List.take_zero])) | refine GR.of ?_); refine ⟨?_, rfl⟩; (try with_reducible rfl)
    rw [hic, decide_eq_false (fun h => by have := hin h; omega)]
theorem l05Put_fn (L : List (List Int)) (p : List Int) (k : Nat) (hk : k ≤ L.length) (hl : L.length ≤ 1000000) : PFn Tryz.prog f_spec_l05Put [ilSS L, I k, ilS p] (ilSS (L.take k ++ p :: L.drop k)) := by
  have htk : (L.take k).length = k := by simp; omega
  have hdk : (L.drop k).length = L.length - k := by simp
  have htd : (L.drop k).take (L.length - k) = L.drop k := List.take_of_length_le (by simp)
  have htm : ((L.take k).map ilS).take k = (L.take k).map ilS := List.take_of_length_le (by simp; omega)
  have hlen : k + 1 + (L.length - k) = (L.take k ++ p :: L.drop k).length := by simp; omega
  intro H; refine ACalls.introB s_spec_l05Put (by simp) ?_; intro hB hA; unfold c_spec_l05Put; simp (config := { maxSteps := 1000000 }) (disch := (first | omega | (simp only [go_sem]; try omega))) only [go_sem, Nat.reduceAdd, Nat.reduceEqDiff, Nat.reduceLeDiff, Nat.reduceMul, Nat.reduceLT, reduceIte, Int.reduceToNat, w64_id, cast_succ]
  repeat (first | (with_reducible first | refine SW.seq ?_ | refine SW.block ?_ | refine SW.rowC ?_ | refine SW.skip ?_ | refine SW.exit ?_ | intro _ | refine And.intro (by omega) ?_) | simp (config := { maxSteps := 1000000 }) (disch := (first | omega | (simp only [go_sem]; try omega))) only [go_sem, Nat.reduceAdd, Nat.reduceEqDiff, Nat.reduceLeDiff, Nat.reduceMul, Nat.reduceLT, reduceIte, Int.reduceToNat, w64_id, cast_succ, htk, hdk, htd, htm, Option.map_some, Option.map_none, slcRows, List.drop_zero, Int.toNat_natCast, Nat.sub_zero, Int.toNat_zero])
  refine SW.ret ?_; (try simp only [go_sem]); (first | refine FunPost.one ?_ | refine FunPost.two ?_ | refine FunPost.three ?_); (try simp (config := { maxSteps := 1000000 }) (disch := (first | omega | (simp only [go_sem]; try omega))) only [go_sem, Nat.reduceAdd, Nat.reduceEqDiff, Nat.reduceLeDiff, Nat.reduceMul, Nat.reduceLT, reduceIte, Int.reduceToNat, w64_id, cast_succ])
  have htn : (List.map ilS (L.take k ++ [p])).take (k + 1) = List.map ilS (L.take k ++ [p]) := List.take_of_length_le (by simp; omega)
  have hcells : (List.map ilS (L.take k ++ [p])).take (k + 1) ++ List.map ilS (L.drop k) = (L.take k ++ p :: L.drop k).map ilS := by rw [htn]; simp
  rw [hcells, hlen]
  exact GR.froz (froz_rowsS (ver := 3) (ty := tyLL) (by omega) (by simp)) ⟨rfl, rfl⟩
theorem put_is {L : List (List Int)} {p : List Int} (ha : Asc cmpL L) (hp : p ∉ L) : L.take (cntL L p) ++ p :: L.drop (cntL L p) = insU cmpL p L := by
  refine asc_uniq cmpL_tot ?_ (insU_asc cmpL_tot p ha) (fun y => ?_)
  · unfold Asc
    have hsp : L = L.take (cntL L p) ++ L.drop (cntL L p) := (List.take_append_drop _ _).symm
    have ha2 := ha
    unfold Asc at ha2
    rw [hsp, List.pairwise_append] at ha2
    have h1 : ∀ x ∈ L.take (cntL L p), cmpL x p < 0 := by
      intro x hx
      obtain ⟨j, hj, rfl⟩ := List.getElem_of_mem hx
      have hjl : j < cntL L p ∧ j < L.length := by simp at hj; omega
      rw [List.getElem_take]
      exact (cntL_lt ha hjl.2).2 hjl.1
    have h2 : ∀ x ∈ L.drop (cntL L p), cmpL p x < 0 := by
      intro x hx
      obtain ⟨j, hj, rfl⟩ := List.getElem_of_mem hx
      have hjl : cntL L p + j < L.length := by simp at hj; omega
      rw [List.getElem_drop]
      have h3 := (cntL_lt (p := p) ha hjl)
      have h4 : cmpL L[cntL L p + j] p ≠ 0 := fun h => hp (by rw [← (cmpL_eq0 _ _).1 h]; exact List.getElem_mem _)
      have h5 := cmpL_tot.neg L[cntL L p + j] p
      have h6 : ¬ cmpL L[cntL L p + j] p < 0 := fun h => by have := h3.1 h; omega
      omega
    rw [List.pairwise_append]
    refine ⟨ha2.1, List.pairwise_cons.2 ⟨h2, ha2.2.1⟩, fun a h b hb => ?_⟩
    rcases List.mem_cons.1 hb with rfl | hb
    · exact h1 a h
    · exact cmpL_trans _ _ _ (h1 a h) (h2 b hb)
  · rw [insU_mem cmpL_tot, List.mem_append, List.mem_cons]
    have : y ∈ L ↔ y ∈ L.take (cntL L p) ∨ y ∈ L.drop (cntL L p) := by rw [← List.mem_append, List.take_append_drop]
    rw [this]
    constructor
    · rintro (h | h | h)
      · exact .inl (.inl h)
      · exact .inr h
      · exact .inl (.inr h)
    · rintro ((h | h) | h)
      · exact .inl h
      · exact .inr (.inr h)
      · exact .inr (.inl h)
theorem l05Close_ok (H : List Blk) (n m : Nat) (a : AV) (gs : List (List Int)) (hn1 : 1 ≤ n) (hn : n ≤ 32) (hm1 : 1 ≤ m) (hm : m ≤ 720) (ha : aview H a = some (gs.length, gs.map ilS)) (hg : ∀ g ∈ gs, permOk n g) (hgl : gs.length ≤ 1000000) :
    ACalls Tryz.prog f_spec_l05Close [I n, a, I m] H (fun r H' => r = closAV (genL n gs m) ∧ H' = H) := by
  have hav : ∀ ext, aview (H ++ ext) a = some (gs.length, gs.map ilS) := fun ext => aview_append ha ext
  refine ACalls.introB s_spec_l05Close (by simp) ?_; intro hB hA; unfold c_spec_l05Close; simp (config := { maxSteps := 1000000 }) (disch := (first | omega | (simp only [go_sem]; try omega))) only [go_sem, Nat.reduceAdd, Nat.reduceEqDiff, Nat.reduceLeDiff, Nat.reduceMul, Nat.reduceLT, reduceIte, Int.reduceToNat, w64_id, cast_succ]
  have hab : ∀ k, H.length ≤ k → Bel k a := fun k hk => (hA a (by simp)).mono hk
  have hi1 := l04One64_fn n (by omega)
  repeat (first | (with_reducible first | refine SW.seq ?_ | refine SW.block ?_ | refine SW.rowC ?_ | refine SW.skip ?_ | refine SW.exit ?_ | refine PFn.use (hi1) ?_ | refine PFn.useq (hi1) ?_ | intro _ | refine And.intro (by omega) ?_) | simp (config := { maxSteps := 1000000 }) (disch := (first | omega | (simp only [go_sem]; try omega))) only [go_sem, Nat.reduceAdd, Nat.reduceEqDiff, Nat.reduceLeDiff, Nat.reduceMul, Nat.reduceLT, reduceIte, Int.reduceToNat, w64_id, cast_succ])
  refine SW.keepS (E' := [(1, a), (2, I m), (9, ilSS [idL n]), (10, .nm H.length 0 0 1), (11, I 0)]) (i := H.length + 1) (ver := 0) (ty := tyLL) (xss := [idL n]) hB (Nat.le_refl _) (by omega) (by simp) ?_ ?_
  · refine .cons _ (.old _ (hab _ (Nat.le_refl _))) (.cons _ (ren_I _) (.cons _ ?_ (.cons _ ?_ (.cons _ (ren_I _) .nil))))
    · exact ren_rowS (H := H ++ [(⟨0, tyLL, 1, [ilS (idL n)]⟩ : Blk), ⟨0, tyLL, 1, [ilS (idL n)]⟩]) (r := H.length) (ver := 0) (ty := tyLL) (xs := [idL n]) (Nat.le_refl _) (by simp) (by simp)
    · exact .nm 0 (H.length + 1) 0 0 1 ⟨0, tyLL, 1, [ilS (idL n)]⟩ rfl (by simp) rfl
  refine SW.loopE (fun E0 H0 q E' H' => ∃ (L : List (List Int)) (k ver : Nat), k ≤ L.length ∧ L.length ≤ m ∧ q = m + 1 - k ∧ E' = aput (aput (aput E0 11 (I k)) 10 (.nm H.length ver 0 L.length)) 9 (ilSS (sortU cmpL L)) ∧ H' = H ++ [⟨ver, tyLL, 1, L.map ilS⟩] ∧ L.Nodup ∧ (∀ p ∈ L, Gen n gs p) ∧ idL n ∈ L ∧ ∀ j, j < k → ∀ g ∈ gs, mul (L.getD j []) g ∈ L) (m + 1) ⟨[idL n], 0, 0, by simp, by simpa using hm1, by omega, rfl, rfl, by simp, by simpa using Gen.one, by simp, by omega⟩ ?_
  rintro q E' H' ⟨L, k, ver, hk, hLl, rfl, rfl, rfl, hnd, hgen, hone, hcl⟩
  simp (config := { maxSteps := 1000000 }) (disch := (first | omega | (simp only [go_sem]; try omega))) only [go_sem, Nat.reduceAdd, Nat.reduceEqDiff, Nat.reduceLeDiff, Nat.reduceMul, Nat.reduceLT, reduceIte, Int.reduceToNat, w64_id, cast_succ]
  repeat (first | (with_reducible first | refine SW.seq ?_ | refine SW.block ?_ | refine SW.rowC ?_ | refine SW.skip ?_ | refine SW.exit ?_ | intro _ | refine And.intro (by omega) ?_) | simp (config := { maxSteps := 1000000 }) (disch := (first | omega | (simp only [go_sem]; try omega))) only [go_sem, Nat.reduceAdd, Nat.reduceEqDiff, Nat.reduceLeDiff, Nat.reduceMul, Nat.reduceLT, reduceIte, Int.reduceToNat, w64_id, cast_succ])
  (first | refine SW.condD rfl (fun h2 => ?_) (fun h2 => ?_) | refine SW.condN rfl (fun h2 => ?_) (fun h2 => ?_) | refine SW.condNB rfl (fun h2 => ?_) (fun h2 => ?_) | refine SW.condB rfl (fun h2 => ?_) (fun h2 => ?_))
  · have hklt : k < L.length := by omega
    have hLk : permOk n (L.getD k []) := (hgen _ (by rw [List.getD_eq_getElem?_getD, List.getElem?_eq_getElem hklt]; exact List.getElem_mem _)).ok hg
    repeat (first | (with_reducible first | refine SW.seq ?_ | refine SW.block ?_ | refine SW.rowC ?_ | refine SW.skip ?_ | refine SW.exit ?_ | intro _ | refine And.intro (by omega) ?_) | simp (config := { maxSteps := 1000000 }) (disch := (first | omega | (simp only [go_sem]; try omega))) only [go_sem, Nat.reduceAdd, Nat.reduceEqDiff, Nat.reduceLeDiff, Nat.reduceMul, Nat.reduceLT, reduceIte, Int.reduceToNat, w64_id, cast_succ])
    refine SW.loopE (fun E0 H0 q E' H' => ∃ (L2 pre post : List (List Int)) (ver : Nat), gs = pre ++ post ∧ q = post.length ∧ E' = aput (aput (aput E0 12 (I pre.length)) 10 (.nm H.length ver 0 L2.length)) 9 (ilSS (sortU cmpL L2)) ∧ H' = H ++ [⟨ver, tyLL, 1, L2.map ilS⟩] ∧ L2.Nodup ∧ (∀ p ∈ L2, Gen n gs p) ∧ (∃ M, L2 = L ++ M) ∧ L2.length ≤ m ∧ ∀ g ∈ pre, mul (L.getD k []) g ∈ L2) gs.length ⟨L, [], gs, ver, rfl, rfl, rfl, rfl, hnd, hgen, ⟨[], by simp⟩, by omega, by simp⟩ ?_
    rintro q E' H' ⟨L2, pre, post, ver, hgp, rfl, rfl, rfl, hnd2, hgen2, ⟨M, hLM⟩, hl2, hpre⟩
    have hkL2 : L2.getD k [] = L.getD k [] := by
      rw [hLM, List.getD_eq_getElem?_getD, List.getD_eq_getElem?_getD, List.getElem?_append_left hklt]
    have hL2l : L.length ≤ L2.length := by rw [hLM]; simp
    have hprel : pre.length ≤ 1000000 := by rw [hgp] at hgl; simp at hgl; omega
    have hsl : (sortU cmpL L2).length = L2.length := (sortU_perm cmpL_tot hnd2).length_eq
    have hsa := sortU_asc cmpL_tot L2
    simp (config := { maxSteps := 1000000 }) (disch := (first | omega | (simp only [go_sem]; try omega))) only [go_sem, Nat.reduceAdd, Nat.reduceEqDiff, Nat.reduceLeDiff, Nat.reduceMul, Nat.reduceLT, reduceIte, Int.reduceToNat, w64_id, cast_succ]
    repeat (first | (with_reducible first | refine SW.seq ?_ | refine SW.block ?_ | refine SW.rowC ?_ | refine SW.skip ?_ | refine SW.exit ?_ | intro _ | refine And.intro (by omega) ?_) | simp (config := { maxSteps := 1000000 }) (disch := (first | omega | (simp only [go_sem]; try omega))) only [go_sem, Nat.reduceAdd, Nat.reduceEqDiff, Nat.reduceLeDiff, Nat.reduceMul, Nat.reduceLT, reduceIte, Int.reduceToNat, w64_id, cast_succ, hav])
    (first | refine SW.condD rfl (fun h3 => ?_) (fun h3 => ?_) | refine SW.condN rfl (fun h3 => ?_) (fun h3 => ?_) | refine SW.condNB rfl (fun h3 => ?_) (fun h3 => ?_) | refine SW.condB rfl (fun h3 => ?_) (fun h3 => ?_))
    · obtain ⟨g, post, rfl, hgg, -⟩ := consOf (d := []) hgp (by omega)
      have hgm : g ∈ gs := by rw [hgp]; simp
      have hcm := l04Times_fn n (L.getD k []) g (by omega) hLk (hg g hgm)
      have hmo := mul_ok hLk (hg g hgm)
      have hgs : Gen n gs (mul (L.getD k []) g) := .step _ g hgm (hgen _ (by rw [List.getD_eq_getElem?_getD, List.getElem?_eq_getElem hklt]; exact List.getElem_mem _))
      generalize hmm : mul (L.getD k []) g = p at *
      have hfd := l05Find_fn (sortU cmpL L2) p hsa (by omega)
      by_cases hpm : p ∈ L2
      · rw [decide_eq_true ((sortU_mem cmpL_tot L2 p).2 hpm)] at hfd
        repeat (first | (with_reducible first | refine SW.seq ?_ | refine SW.block ?_ | refine SW.rowC ?_ | refine SW.skip ?_ | refine SW.exit ?_ | refine PFn.use (hcm) ?_ | refine PFn.useq (hcm) ?_ | refine PFn.use (hfd) ?_ | refine PFn.useq (hfd) ?_ | intro _ | refine And.intro (by omega) ?_) | simp (config := { maxSteps := 1000000 }) (disch := (first | omega | (simp only [go_sem]; try omega))) only [go_sem, Nat.reduceAdd, Nat.reduceEqDiff, Nat.reduceLeDiff, Nat.reduceMul, Nat.reduceLT, reduceIte, Int.reduceToNat, w64_id, cast_succ, hav, hgg, hkL2])
        refine SW.condT rfl ?_
        repeat (first | (with_reducible first | refine SW.seq ?_ | refine SW.block ?_ | refine SW.rowC ?_ | refine SW.skip ?_ | refine SW.exit ?_ | intro _ | refine And.intro (by omega) ?_) | simp (config := { maxSteps := 1000000 }) (disch := (first | omega | (simp only [go_sem]; try omega))) only [go_sem, Nat.reduceAdd, Nat.reduceEqDiff, Nat.reduceLeDiff, Nat.reduceMul, Nat.reduceLT, reduceIte, Int.reduceToNat, w64_id, cast_succ])
        refine SLoop.next post.length (by simp) ⟨L2, pre ++ [g], post, ver, by simp [hgp], rfl, by simp [go_sem], rfl, hnd2, hgen2, ⟨M, hLM⟩, hl2, ?_⟩
        intro g' hg'
        rcases List.mem_append.1 hg' with h | h
        · exact hpre g' h
        · rw [List.mem_singleton.1 h, hmm]; exact hpm
      · have hps : p ∉ sortU cmpL L2 := fun h => hpm ((sortU_mem cmpL_tot L2 p).1 h)
        rw [decide_eq_false hps] at hfd
        have hnd3 : (L2 ++ [p]).Nodup := by
          rw [List.nodup_append]
          refine ⟨hnd2, by simp, fun a h1 b h2 => ?_⟩
          rw [List.mem_singleton.1 h2]
          rintro rfl
          exact hpm h1
        have hgen3 : ∀ q ∈ L2 ++ [p], Gen n gs q := by
          intro q hq
          rcases List.mem_append.1 hq with h | h
          · exact hgen2 q h
          · rw [List.mem_singleton.1 h]; exact hgs
        by_cases hfull : L2.length = m
        · have dd : decide (((L2.length : Nat) : Int) = (m : Int)) = true := decide_eq_true (by omega)
          repeat (first | (with_reducible first | refine SW.seq ?_ | refine SW.block ?_ | refine SW.rowC ?_ | refine SW.skip ?_ | refine SW.exit ?_ | refine PFn.use (hcm) ?_ | refine PFn.useq (hcm) ?_ | refine PFn.use (hfd) ?_ | refine PFn.useq (hfd) ?_ | intro _ | refine And.intro (by omega) ?_) | simp (config := { maxSteps := 1000000 }) (disch := (first | omega | (simp only [go_sem]; try omega))) only [go_sem, Nat.reduceAdd, Nat.reduceEqDiff, Nat.reduceLeDiff, Nat.reduceMul, Nat.reduceLT, reduceIte, Int.reduceToNat, w64_id, cast_succ, hav, hgg, hkL2, hsl, dd])
          refine SW.condF rfl ?_
          repeat (first | (with_reducible first | refine SW.seq ?_ | refine SW.block ?_ | refine SW.rowC ?_ | refine SW.skip ?_ | refine SW.exit ?_ | intro _ | refine And.intro (by omega) ?_) | simp (config := { maxSteps := 1000000 }) (disch := (first | omega | (simp only [go_sem]; try omega))) only [go_sem, Nat.reduceAdd, Nat.reduceEqDiff, Nat.reduceLeDiff, Nat.reduceMul, Nat.reduceLT, reduceIte, Int.reduceToNat, w64_id, cast_succ, hsl, dd])
          refine SW.condT rfl ?_
          repeat (first | (with_reducible first | refine SW.seq ?_ | refine SW.block ?_ | refine SW.rowC ?_ | refine SW.skip ?_ | refine SW.exit ?_ | intro _ | refine And.intro (by omega) ?_) | simp (config := { maxSteps := 1000000 }) (disch := (first | omega | (simp only [go_sem]; try omega))) only [go_sem, Nat.reduceAdd, Nat.reduceEqDiff, Nat.reduceLeDiff, Nat.reduceMul, Nat.reduceLT, reduceIte, Int.reduceToNat, w64_id, cast_succ])
          refine SW.ret ?_; (try simp only [go_sem]); (first | refine FunPost.one ?_ | refine FunPost.two ?_ | refine FunPost.three ?_); (try simp (config := { maxSteps := 1000000 }) (disch := (first | omega | (simp only [go_sem]; try omega))) only [go_sem, Nat.reduceAdd, Nat.reduceEqDiff, Nat.reduceLeDiff, Nat.reduceMul, Nat.reduceLT, reduceIte, Int.reduceToNat, w64_id, cast_succ])
          rw [genL_none hnd3 hgen3 (by simp; omega)]
          exact GR.froz (r' := .tup [ilSS [], Bv false]) (froz_tup2 .nil (.old _ (.lit _))) ⟨rfl, rfl⟩
        · have dd : decide (((L2.length : Nat) : Int) = (m : Int)) = false := decide_eq_false (by omega)
          have hput := l05Put_fn (sortU cmpL L2) p (cntL (sortU cmpL L2) p) (cntL_le _ _) (by omega)
          rw [put_is hsa hps, ← sortU_snoc] at hput
          have htl : (L2.map ilS).take L2.length = L2.map ilS := List.take_of_length_le (by simp)
          repeat (first | (with_reducible first | refine SW.seq ?_ | refine SW.block ?_ | refine SW.rowC ?_ | refine SW.skip ?_ | refine SW.exit ?_ | refine PFn.use (hcm) ?_ | refine PFn.useq (hcm) ?_ | refine PFn.use (hfd) ?_ | refine PFn.useq (hfd) ?_ | intro _ | refine And.intro (by omega) ?_) | simp (config := { maxSteps := 1000000 }) (disch := (first | omega | (simp only [go_sem]; try omega))) only [go_sem, Nat.reduceAdd, Nat.reduceEqDiff, Nat.reduceLeDiff, Nat.reduceMul, Nat.reduceLT, reduceIte, Int.reduceToNat, w64_id, cast_succ, hav, hgg, hkL2, hsl, dd])
          refine SW.condF rfl ?_
          repeat (first | (with_reducible first | refine SW.seq ?_ | refine SW.block ?_ | refine SW.rowC ?_ | refine SW.skip ?_ | refine SW.exit ?_ | intro _ | refine And.intro (by omega) ?_) | simp (config := { maxSteps := 1000000 }) (disch := (first | omega | (simp only [go_sem]; try omega))) only [go_sem, Nat.reduceAdd, Nat.reduceEqDiff, Nat.reduceLeDiff, Nat.reduceMul, Nat.reduceLT, reduceIte, Int.reduceToNat, w64_id, cast_succ, hsl, dd])
          refine SW.condF rfl ?_
          repeat (first | (with_reducible first | refine SW.seq ?_ | refine SW.block ?_ | refine SW.rowC ?_ | refine SW.skip ?_ | refine SW.exit ?_ | refine PFn.use (hput) ?_ | refine PFn.useq (hput) ?_ | intro _ | refine And.intro (by omega) ?_) | simp (config := { maxSteps := 1000000 }) (disch := (first | omega | (simp only [go_sem]; try omega))) only [go_sem, Nat.reduceAdd, Nat.reduceEqDiff, Nat.reduceLeDiff, Nat.reduceMul, Nat.reduceLT, reduceIte, Int.reduceToNat, w64_id, cast_succ, htl])
          refine SLoop.nextT 1 post.length hB (by omega) (by simp) (by simp) ?_ ?_ ⟨L2 ++ [p], pre ++ [g], post, ver + 1, by simp [hgp], rfl, ?_, ?_, hnd3, hgen3, ⟨M ++ [p], by rw [hLM]; simp⟩, by simp; omega, ?_⟩
          · have hab2 := hab (H.length + 1) (by omega)
            (simp only [go_sem, Nat.reduceAdd, Nat.reduceEqDiff, reduceIte, go_sem, and_self, and_true, true_and, implies_true, List.take_succ_cons, List.take_zero, and_true, true_and, hab2]; try omega)
          · simp only [List.take_succ_cons, List.take_zero, BB_cons, BB_nil, and_true]
            intro c hc
            obtain ⟨x, _, rfl⟩ := List.mem_map.1 hc
            rw [Bel_ilS]; trivial
          · simp [go_sem]
          · simp
          · intro g' hg'
            rcases List.mem_append.1 hg' with h | h
            · exact List.mem_append_left _ (hpre g' h)
            · rw [List.mem_singleton.1 h, hmm]; simp
    · obtain ⟨rfl, rfl⟩ := nilOf hgp (by omega)
      repeat (first | (with_reducible first | refine SW.seq ?_ | refine SW.block ?_ | refine SW.rowC ?_ | refine SW.skip ?_ | refine SW.exit ?_ | intro _ | refine And.intro (by omega) ?_) | simp (config := { maxSteps := 1000000 }) (disch := (first | omega | (simp only [go_sem]; try omega))) only [go_sem, Nat.reduceAdd, Nat.reduceEqDiff, Nat.reduceLeDiff, Nat.reduceMul, Nat.reduceLT, reduceIte, Int.reduceToNat, w64_id, cast_succ])
      refine SLoop.next (m + 1 - (k + 1)) (by omega) ⟨L2, k + 1, ver, by omega, by omega, rfl, by simp [go_sem], rfl, hnd2, hgen2, by rw [hLM]; exact List.mem_append_left _ hone, ?_⟩
      intro j hj g hgm
      rcases Nat.lt_or_eq_of_le (Nat.le_of_lt_succ hj) with h5 | rfl
      · have e : L2.getD j [] = L.getD j [] := by
          rw [hLM, List.getD_eq_getElem?_getD, List.getD_eq_getElem?_getD, List.getElem?_append_left (by omega)]
        rw [e, hLM]
        exact List.mem_append_left _ (hcl j h5 g hgm)
      · rw [hkL2]; exact hpre g hgm
  · have hkL : k = L.length := by omega
    subst hkL
    have hG : GenList n gs (sortU cmpL L) := by
      refine ⟨sortU_asc cmpL_tot _, fun p => ?_⟩
      rw [sortU_mem cmpL_tot]
      refine ⟨hgen p, fun h => ?_⟩
      induction h with
      | one => exact hone
      | step p g hgm _ ih =>
        obtain ⟨j, hj, he⟩ := List.getElem_of_mem ih
        have := hcl j hj g hgm
        rw [List.getD_eq_getElem?_getD, List.getElem?_eq_getElem hj] at this
        simp only [Option.getD_some, he] at this
        exact this
    have hGl : (sortU cmpL L).length ≤ m := Nat.le_trans (sortU_len (cf := cmpL) L) hLl
    rw [genL_some hG hGl]
    repeat (first | (with_reducible first | refine SW.seq ?_ | refine SW.block ?_ | refine SW.rowC ?_ | refine SW.skip ?_ | refine SW.exit ?_ | intro _ | refine And.intro (by omega) ?_) | simp (config := { maxSteps := 1000000 }) (disch := (first | omega | (simp only [go_sem]; try omega))) only [go_sem, Nat.reduceAdd, Nat.reduceEqDiff, Nat.reduceLeDiff, Nat.reduceMul, Nat.reduceLT, reduceIte, Int.reduceToNat, w64_id, cast_succ])
    refine SW.ret ?_; (try simp only [go_sem]); (first | refine FunPost.one ?_ | refine FunPost.two ?_ | refine FunPost.three ?_); (try simp (config := { maxSteps := 1000000 }) (disch := (first | omega | (simp only [go_sem]; try omega))) only [go_sem, Nat.reduceAdd, Nat.reduceEqDiff, Nat.reduceLeDiff, Nat.reduceMul, Nat.reduceLT, reduceIte, Int.reduceToNat, w64_id, cast_succ])
    refine GR.drop ?_ ⟨rfl, rfl⟩
    simp [go_sem]
end Go.Proofs.YthogadbnddmkdaaGreat
namespace Go.Proofs.YthogadbnddmkdaaGreat
open Go.Av
theorem l00OwnV_fn (xs : List Int) (hl : xs.length ≤ 2000000) : PFn Tryz.prog f_spec_l00Own [ilS xs] (ilS xs) := by
  intro H; refine ACalls.introB s_spec_l00Own (by simp) ?_; intro hB hA; unfold c_spec_l00Own; simp (config := { maxSteps := 1000000 }) (disch := (first | omega | (simp only [go_sem]; try omega))) only [go_sem, Nat.reduceAdd, Nat.reduceEqDiff, Nat.reduceLeDiff, Nat.reduceMul, Nat.reduceLT, reduceIte, Int.reduceToNat, w64_id, cast_succ]
  repeat (first | (with_reducible first | refine SW.seq ?_ | refine SW.block ?_ | refine SW.rowC ?_ | refine SW.skip ?_ | refine SW.exit ?_ | intro _ | refine And.intro (by omega) ?_) | simp (config := { maxSteps := 1000000 }) (disch := (first | omega | (simp only [go_sem]; try omega))) only [go_sem, Nat.reduceAdd, Nat.reduceEqDiff, Nat.reduceLeDiff, Nat.reduceMul, Nat.reduceLT, reduceIte, Int.reduceToNat, w64_id, cast_succ])
  refine SW.ret ?_; (try simp only [go_sem]); (first | refine FunPost.one ?_ | refine FunPost.two ?_ | refine FunPost.three ?_); (try simp (config := { maxSteps := 1000000 }) (disch := (first | omega | (simp only [go_sem]; try omega))) only [go_sem, Nat.reduceAdd, Nat.reduceEqDiff, Nat.reduceLeDiff, Nat.reduceMul, Nat.reduceLT, reduceIte, Int.reduceToNat, w64_id, cast_succ])
  exact GR.froz (froz_rowI (r := H.length) (ver := 1) (ty := 2) (Nat.le_refl _) (by simp)) ⟨rfl, rfl⟩
end Go.Proofs.YthogadbnddmkdaaGreat
namespace Go.Proofs.YthogadbnddmkdaaGreat
open Go.Av
end Go.Proofs.YthogadbnddmkdaaGreat
namespace Go.Proofs.YthogadbnddmkdaaGreat
open Go.Av
abbrev f_spec_l10Sort : Nat := 141
def c_spec_l10Sort : SC :=
 .seq (.reg [
     ⟨(some 2), .mv (.const (.slice none 0 0)), none⟩] [0])
 (.seq (.reg [
     ⟨(some 7), .bslice 50 1 0 [] [], none⟩,
     ⟨(some 3), .mv (.tmp 7), none⟩] [0, 3])
 (.seq (.seq (.reg [
     ⟨(some 4), .mv (.const (.int .i64 0)), none⟩] [0, 3, 4])
 (.block 0 (.loop [0, 3, 4]
   (.seq (.seq (.reg [
       ⟨(some 8), .mv (.tmp 4), none⟩,
       ⟨(some 9), .mv (.tmp 0), none⟩,
       ⟨(some 10), .len (.tmp 9), none⟩,
       ⟨(some 11), .bin .lss (.tmp 8) (.tmp 10), none⟩] [0, 3, 4, 11])
   (.cond (.tmp 11)
    (.skip)
    (.exit 0)))
   (.seq (.block 1 (.seq (.reg [
        ⟨(some 14), .mv (.tmp 3), none⟩,
        ⟨(some 15), .len (.tmp 14), none⟩,
        ⟨(some 5), .mv (.tmp 15), none⟩] [0, 3, 4, 5])
    (.seq (.block 2 (.loop [0, 3, 4, 5]
      (.seq (.seq (.reg [
          ⟨(some 16), .mv (.tmp 5), none⟩,
          ⟨(some 17), .bin .gtr (.tmp 16) (.const (.int .i64 0)), none⟩,
          ⟨(some 18), .mv (.tmp 17), none⟩,
          ⟨(some 19), .mv (.tmp 3), (some (18, true))⟩,
          ⟨(some 20), .mv (.tmp 5), (some (18, true))⟩,
          ⟨(some 21), .bin .sub (.tmp 20) (.const (.int .i64 1)), (some (18, true))⟩,
          ⟨(some 22), .iaddr 1 (.tmp 19) (.tmp 21), (some (18, true))⟩,
          ⟨(some 23), .load 1 false (.tmp 22), (some (18, true))⟩,
          ⟨(some 24), .mv (.tmp 0), (some (18, true))⟩,
          ⟨(some 25), .mv (.tmp 4), (some (18, true))⟩,
          ⟨(some 26), .iaddr 1 (.tmp 24) (.tmp 25), (some (18, true))⟩,
          ⟨(some 27), .load 1 false (.tmp 26), (some (18, true))⟩,
          ⟨(some 28), .qcall 102 [(.tmp 23), (.tmp 27)], (some (18, true))⟩,
          ⟨(some 29), .bin .gtr (.tmp 28) (.const (.int .i64 0)), (some (18, true))⟩,
          ⟨(some 30), .pick (.tmp 18) (.tmp 29) (.const (.bool false)), none⟩] [0, 3, 4, 5, 30])
      (.cond (.tmp 30)
       (.skip)
       (.exit 2)))
      (.block 3 (.reg [
           ⟨(some 31), .mv (.tmp 5), none⟩,
           ⟨(some 32), .bin .sub (.tmp 31) (.const (.int .i64 1)), none⟩,
           ⟨(some 5), .mv (.tmp 32), none⟩] [0, 3, 4, 5])))))
    (.seq (.reg [
        ⟨(some 33), .bslice 50 1 0 [] [], none⟩,
        ⟨(some 34), .mv (.tmp 3), none⟩,
        ⟨(some 35), .mv (.tmp 5), none⟩,
        ⟨(some 36), .slc 1 (.tmp 34) none (some (.tmp 35)), none⟩,
        ⟨(some 37), .app 50 1 24 (.tmp 33) (.tmp 36), none⟩,
        ⟨(some 6), .mv (.tmp 37), none⟩] [0, 3, 4, 5, 6])
    (.seq (.reg [
        ⟨(some 38), .mv (.tmp 6), none⟩,
        ⟨(some 39), .mv (.tmp 0), none⟩,
        ⟨(some 40), .mv (.tmp 4), none⟩,
        ⟨(some 41), .iaddr 1 (.tmp 39) (.tmp 40), none⟩,
        ⟨(some 42), .load 1 false (.tmp 41), none⟩,
        ⟨(some 43), .call 132 [(.tmp 42)], none⟩,
        ⟨(some 44), .bslice 50 1 1 [(.slice none 0 0)] [(0, (.tmp 43))], none⟩,
        ⟨(some 45), .app 50 1 24 (.tmp 38) (.tmp 44), none⟩,
        ⟨(some 6), .mv (.tmp 45), none⟩] [0, 3, 4, 5, 6])
    (.reg [
        ⟨(some 46), .mv (.tmp 6), none⟩,
        ⟨(some 47), .mv (.tmp 3), none⟩,
        ⟨(some 48), .mv (.tmp 5), none⟩,
        ⟨(some 49), .slc 1 (.tmp 47) (some (.tmp 48)) none, none⟩,
        ⟨(some 50), .app 50 1 24 (.tmp 46) (.tmp 49), none⟩,
        ⟨(some 3), .mv (.tmp 50), none⟩] [0, 3, 4]))))))
   (.reg [
       ⟨(some 12), .mv (.tmp 4), none⟩,
       ⟨(some 13), .bin .add (.tmp 12) (.const (.int .i64 1)), none⟩,
       ⟨(some 4), .mv (.tmp 13), none⟩] [0, 3, 4]))))))
 (.seq (.reg [
     ⟨(some 51), .mv (.tmp 3), none⟩,
     ⟨(some 2), .mv (.tmp 51), none⟩] [2])
 (.ret))))
theorem s_spec_l10Sort : stripF Tryz.prog 141 [[0], [0, 3], [0, 3, 4], [0, 3, 4], [0, 3, 4, 11], [0, 3, 4, 5], [0, 3, 4, 5], [0, 3, 4, 5, 30], [0, 3, 4, 5], [0, 3, 4, 5, 6], [0, 3, 4, 5, 6], [0, 3, 4], [0, 3, 4], [2]] = some (c_spec_l10Sort, [.tmp 2], 52) := by kernel_rfl
theorem clone_fnX (x : List Int) (hl : x.length ≤ 2000000) : PFn Tryz.prog f_slices_Clone_Lint64_int64 [ilS x] (ilS x) := fun H =>
  (clone_ok H _ x (rd_ilS _ _) (by omega)).gr (by
    rintro r H' ⟨ver, rfl, rfl⟩
    exact GR.froz (froz_rowI (ver := ver) (ty := 2) (Nat.le_refl _) (by simp)) ⟨rfl, rfl⟩)
end Go.Proofs.YthogadbnddmkdaaGreat
namespace Go.Proofs.YthogadbnddmkdaaGreat
open Go.Av
theorem l10Sort_new (H : List Blk) (a : AV) (xss : List (List Int)) (ha : aview H a = some (xss.length, xss.map ilS)) (hl : xss.length ≤ 1000000) (hr : ∀ x ∈ xss, x.length ≤ 2000000) : ACalls Tryz.prog f_spec_l10Sort [a] H (fun r H' => ∃ ver, r = .nm H.length ver 0 xss.length ∧ H' = H ++ [⟨ver, tyLL, 1, (sortD cmpL xss).map ilS⟩]) := by
  have hav : ∀ ext, aview (H ++ ext) a = some (xss.length, xss.map ilS) := fun ext => aview_append ha ext
  refine ACalls.introB s_spec_l10Sort (by simp) ?_; intro hB hA; unfold c_spec_l10Sort; simp (config := { maxSteps := 1000000 }) (disch := (first | omega | (simp only [go_sem]; try omega))) only [go_sem, Nat.reduceAdd, Nat.reduceEqDiff, Nat.reduceLeDiff, Nat.reduceMul, Nat.reduceLT, reduceIte, Int.reduceToNat, w64_id, cast_succ]
  have hab : ∀ k, H.length ≤ k → Bel k a := fun k hk => (hA a (by simp)).mono hk
  repeat (first | (with_reducible first | refine SW.seq ?_ | refine SW.block ?_ | refine SW.rowC ?_ | refine SW.skip ?_ | refine SW.exit ?_ | intro _ | refine And.intro (by omega) ?_) | simp (config := { maxSteps := 1000000 }) (disch := (first | omega | (simp only [go_sem]; try omega))) only [go_sem, Nat.reduceAdd, Nat.reduceEqDiff, Nat.reduceLeDiff, Nat.reduceMul, Nat.reduceLT, reduceIte, Int.reduceToNat, w64_id, cast_succ])
  refine SW.loopE (fun E0 H0 q E' H' => ∃ (pre post : List (List Int)) (ver : Nat), xss = pre ++ post ∧ q = post.length ∧ E' = aput (aput E0 4 (I pre.length)) 3 (.nm H.length ver 0 pre.length) ∧ H' = H ++ [⟨ver, tyLL, 1, (sortD cmpL pre).map ilS⟩]) xss.length ⟨[], xss, 0, rfl, rfl, rfl, rfl⟩ ?_
  rintro q E' H' ⟨pre, post, ver, hpp, rfl, rfl, rfl⟩
  have hsd := sortD_fact cmpL_tot pre
  have hord := hsd.2
  have hsl : (sortD cmpL pre).length = pre.length := hsd.1.length_eq
  have hsn := fun y => sortD_snoc (cf := cmpL) pre y
  have hpl : pre.length ≤ 1000000 := by rw [hpp] at hl; simp at hl; omega
  clear hsd
  generalize hL0 : sortD cmpL pre = L at *
  have hfr : Ren (H ++ [(⟨ver, tyLL, 1, L.map ilS⟩ : Blk)]) H.length [] (.nm H.length ver 0 pre.length) (ilSS L) := by
    rw [← hsl]
    exact ren_rowS (H := H ++ [(⟨ver, tyLL, 1, L.map ilS⟩ : Blk)]) (k := H.length) (js := []) (r := H.length) (ver := ver) (ty := tyLL) (xs := L) (by simp) (by simp) (by simp)
  simp (config := { maxSteps := 1000000 }) (disch := (first | omega | (simp only [go_sem]; try omega))) only [go_sem, Nat.reduceAdd, Nat.reduceEqDiff, Nat.reduceLeDiff, Nat.reduceMul, Nat.reduceLT, reduceIte, Int.reduceToNat, w64_id, cast_succ]
  repeat (first | (with_reducible first | refine SW.seq ?_ | refine SW.block ?_ | refine SW.rowC ?_ | refine SW.skip ?_ | refine SW.exit ?_ | intro _ | refine And.intro (by omega) ?_) | simp (config := { maxSteps := 1000000 }) (disch := (first | omega | (simp only [go_sem]; try omega))) only [go_sem, Nat.reduceAdd, Nat.reduceEqDiff, Nat.reduceLeDiff, Nat.reduceMul, Nat.reduceLT, reduceIte, Int.reduceToNat, w64_id, cast_succ, ha, hav])
  (first | refine SW.condD rfl (fun h => ?_) (fun h => ?_) | refine SW.condN rfl (fun h => ?_) (fun h => ?_) | refine SW.condNB rfl (fun h => ?_) (fun h => ?_) | refine SW.condB rfl (fun h => ?_) (fun h => ?_))
  · obtain ⟨y, post, rfl, hg, -⟩ := consOf (d := []) hpp (by omega)
    have hy := hr y (by rw [hpp]; simp)
    refine SW.froz (E' := [(0, a), (3, ilSS L), (4, I (pre.length : Int)), (11, Bv (decide ((pre.length : Int) < xss.length)))]) hB (by simp) (.cons _ (.old _ (hab _ (Nat.le_refl _))) (.cons _ hfr (.cons _ (ren_I _) (.cons _ (ren_B _) .nil)))) ?_
    repeat (first | (with_reducible first | refine SW.seq ?_ | refine SW.block ?_ | refine SW.rowC ?_ | refine SW.skip ?_ | refine SW.exit ?_ | intro _ | refine And.intro (by omega) ?_) | simp (config := { maxSteps := 1000000 }) (disch := (first | omega | (simp only [go_sem]; try omega))) only [go_sem, Nat.reduceAdd, Nat.reduceEqDiff, Nat.reduceLeDiff, Nat.reduceMul, Nat.reduceLT, reduceIte, Int.reduceToNat, w64_id, cast_succ])
    refine SW.loopE (fun E0 H0 q E' H' => ∃ k : Nat, k ≤ L.length ∧ q = k ∧ E' = aput E0 5 (I k) ∧ H' = H0 ∧ ∀ b ∈ L.drop k, cmpL b y > 0) L.length ⟨L.length, by omega, rfl, rfl, rfl, by simp⟩ ?_
    rintro k E' H' ⟨_, hk, rfl, rfl, rfl, hd⟩
    simp (config := { maxSteps := 1000000 }) (disch := (first | omega | (simp only [go_sem]; try omega))) only [go_sem, Nat.reduceAdd, Nat.reduceEqDiff, Nat.reduceLeDiff, Nat.reduceMul, Nat.reduceLT, reduceIte, Int.reduceToNat, w64_id, cast_succ]
    by_cases hk0 : k = 0
    · have dd : decide ((0 : Int) < (k : Int)) = false := decide_eq_false (by omega)
      repeat (first | (with_reducible first | refine SW.seq ?_ | refine SW.block ?_ | refine SW.rowC ?_ | refine SW.skip ?_ | refine SW.exit ?_ | intro _ | refine And.intro (by omega) ?_) | simp (config := { maxSteps := 1000000 }) (disch := (first | omega | (simp only [go_sem]; try omega))) only [go_sem, Nat.reduceAdd, Nat.reduceEqDiff, Nat.reduceLeDiff, Nat.reduceMul, Nat.reduceLT, reduceIte, Int.reduceToNat, w64_id, cast_succ, ha, hav, dd])
      refine SW.condF rfl ?_
      repeat (first | (with_reducible first | refine SW.seq ?_ | refine SW.block ?_ | refine SW.rowC ?_ | refine SW.skip ?_ | refine SW.exit ?_ | intro _ | refine And.intro (by omega) ?_) | simp (config := { maxSteps := 1000000 }) (disch := (first | omega | (simp only [go_sem]; try omega))) only [go_sem, Nat.reduceAdd, Nat.reduceEqDiff, Nat.reduceLeDiff, Nat.reduceMul, Nat.reduceLT, reduceIte, Int.reduceToNat, w64_id, cast_succ, ha, hav])
      have hpl2 := insD_place cmpL_tot y hord hd (fun d h0 _ => absurd h0 (by omega)) hk
      have htk : (L.take k).length = k := by simp; omega
      have hdk : (L.drop k).length = L.length - k := by simp
      have htd : (L.drop k).take (L.length - k) = L.drop k := List.take_of_length_le (by simp)
      have htm : ((L.take k).map ilS).take k = (L.take k).map ilS := List.take_of_length_le (by simp; omega)
      have hlen : k + 1 + (L.length - k) = (L.take k ++ y :: L.drop k).length := by simp; omega
      repeat (first | (with_reducible first | refine SW.seq ?_ | refine SW.block ?_ | refine SW.rowC ?_ | refine SW.skip ?_ | refine SW.exit ?_ | refine PFn.use (l00OwnV_fn y hy) ?_ | refine PFn.useq (l00OwnV_fn y hy) ?_ | intro _ | refine And.intro (by omega) ?_) | simp (config := { maxSteps := 1000000 }) (disch := (first | omega | (simp only [go_sem]; try omega))) only [go_sem, Nat.reduceAdd, Nat.reduceEqDiff, Nat.reduceLeDiff, Nat.reduceMul, Nat.reduceLT, reduceIte, Int.reduceToNat, w64_id, cast_succ, ha, hav, hg, htk, hdk, htd, htm, Option.map_some, Option.map_none, slcRows, List.drop_zero, Int.toNat_natCast, Nat.sub_zero, Int.toNat_zero])
      have htn : (List.map ilS (L.take k ++ [y])).take (k + 1) = List.map ilS (L.take k ++ [y]) := List.take_of_length_le (by simp; omega)
      have hcells : (List.map ilS (L.take k ++ [y])).take (k + 1) ++ List.map ilS (L.drop k) = (L.take k ++ y :: L.drop k).map ilS := by rw [htn]; simp
      rw [hcells, hlen]
      refine SLoop.nextT 1 post.length hB (by omega) (by simp) (by simp) ?_ ?_ ⟨pre ++ [y], post, 3, by simp [hpp], rfl, ?_, ?_⟩
      · (simp only [go_sem, Nat.reduceAdd, Nat.reduceEqDiff, reduceIte, go_sem, and_self, and_true, true_and, implies_true, List.take_succ_cons, List.take_zero, and_true, true_and]; try omega)
        exact ⟨hab _ (by omega), by omega⟩
      · (simp only [go_sem, Nat.reduceAdd, Nat.reduceEqDiff, reduceIte, go_sem, and_self, and_true, true_and, implies_true, List.take_succ_cons, List.take_zero, and_true, true_and]; try omega)
      · simp [go_sem]; omega
      · rw [hsn, hpl2]; simp
    have dd : decide ((0 : Int) < (k : Int)) = true := decide_eq_true (by omega)
    have e1 : (k : Int) - 1 = ((k - 1 : Nat) : Int) := by omega
    by_cases hc : 0 < cmpL (L.getD (k - 1) []) y
    · have dc : decide (0 < cmpL (L.getD (k - 1) []) y) = true := decide_eq_true hc
      repeat (first | (with_reducible first | refine SW.seq ?_ | refine SW.block ?_ | refine SW.rowC ?_ | refine SW.skip ?_ | refine SW.exit ?_ | refine PFn.use (CompareLists_fn _ _) ?_ | refine PFn.useq (CompareLists_fn _ _) ?_ | intro _ | refine And.intro (by omega) ?_) | simp (config := { maxSteps := 1000000 }) (disch := (first | omega | (simp only [go_sem]; try omega))) only [go_sem, Nat.reduceAdd, Nat.reduceEqDiff, Nat.reduceLeDiff, Nat.reduceMul, Nat.reduceLT, reduceIte, Int.reduceToNat, w64_id, cast_succ, ha, hav, dd, e1, hg, dc])
      refine SW.condT rfl ?_
      repeat (first | (with_reducible first | refine SW.seq ?_ | refine SW.block ?_ | refine SW.rowC ?_ | refine SW.skip ?_ | refine SW.exit ?_ | intro _ | refine And.intro (by omega) ?_) | simp (config := { maxSteps := 1000000 }) (disch := (first | omega | (simp only [go_sem]; try omega))) only [go_sem, Nat.reduceAdd, Nat.reduceEqDiff, Nat.reduceLeDiff, Nat.reduceMul, Nat.reduceLT, reduceIte, Int.reduceToNat, w64_id, cast_succ, e1])
      refine SLoop.next (k - 1) (by omega) ⟨k - 1, by omega, rfl, ?_, rfl, ?_⟩
      · simp [go_sem]
      · have hlt : k - 1 < L.length := by omega
        rw [List.drop_eq_getElem_cons hlt]
        intro b hb
        rcases List.mem_cons.1 hb with rfl | hb
        · rw [List.getD_eq_getElem?_getD, List.getElem?_eq_getElem hlt] at hc; exact hc
        · rw [show k - 1 + 1 = k by omega] at hb; exact hd b hb
    · have dc : decide (0 < cmpL (L.getD (k - 1) []) y) = false := decide_eq_false hc
      repeat (first | (with_reducible first | refine SW.seq ?_ | refine SW.block ?_ | refine SW.rowC ?_ | refine SW.skip ?_ | refine SW.exit ?_ | refine PFn.use (CompareLists_fn _ _) ?_ | refine PFn.useq (CompareLists_fn _ _) ?_ | intro _ | refine And.intro (by omega) ?_) | simp (config := { maxSteps := 1000000 }) (disch := (first | omega | (simp only [go_sem]; try omega))) only [go_sem, Nat.reduceAdd, Nat.reduceEqDiff, Nat.reduceLeDiff, Nat.reduceMul, Nat.reduceLT, reduceIte, Int.reduceToNat, w64_id, cast_succ, ha, hav, dd, e1, hg, dc])
      refine SW.condF rfl ?_
      repeat (first | (with_reducible first | refine SW.seq ?_ | refine SW.block ?_ | refine SW.rowC ?_ | refine SW.skip ?_ | refine SW.exit ?_ | intro _ | refine And.intro (by omega) ?_) | simp (config := { maxSteps := 1000000 }) (disch := (first | omega | (simp only [go_sem]; try omega))) only [go_sem, Nat.reduceAdd, Nat.reduceEqDiff, Nat.reduceLeDiff, Nat.reduceMul, Nat.reduceLT, reduceIte, Int.reduceToNat, w64_id, cast_succ, ha, hav])
      have hpl2 := insD_place cmpL_tot y hord hd (fun d h0 _ => by rw [List.getD_eq_getElem?_getD] at hc ⊢; rw [List.getElem?_eq_getElem (by omega)] at hc ⊢; exact hc) hk
      have htk : (L.take k).length = k := by simp; omega
      have hdk : (L.drop k).length = L.length - k := by simp
      have htd : (L.drop k).take (L.length - k) = L.drop k := List.take_of_length_le (by simp)
      have htm : ((L.take k).map ilS).take k = (L.take k).map ilS := List.take_of_length_le (by simp; omega)
      have hlen : k + 1 + (L.length - k) = (L.take k ++ y :: L.drop k).length := by simp; omega
      repeat (first | (with_reducible first | refine SW.seq ?_ | refine SW.block ?_ | refine SW.rowC ?_ | refine SW.skip ?_ | refine SW.exit ?_ | refine PFn.use (l00OwnV_fn y hy) ?_ | refine PFn.useq (l00OwnV_fn y hy) ?_ | intro _ | refine And.intro (by omega) ?_) | simp (config := { maxSteps := 1000000 }) (disch := (first | omega | (simp only [go_sem]; try omega))) only [go_sem, Nat.reduceAdd, Nat.reduceEqDiff, Nat.reduceLeDiff, Nat.reduceMul, Nat.reduceLT, reduceIte, Int.reduceToNat, w64_id, cast_succ, ha, hav, hg, htk, hdk, htd, htm, Option.map_some, Option.map_none, slcRows, List.drop_zero, Int.toNat_natCast, Nat.sub_zero, Int.toNat_zero])
      have htn : (List.map ilS (L.take k ++ [y])).take (k + 1) = List.map ilS (L.take k ++ [y]) := List.take_of_length_le (by simp; omega)
      have hcells : (List.map ilS (L.take k ++ [y])).take (k + 1) ++ List.map ilS (L.drop k) = (L.take k ++ y :: L.drop k).map ilS := by rw [htn]; simp
      rw [hcells, hlen]
      refine SLoop.nextT 1 post.length hB (by omega) (by simp) (by simp) ?_ ?_ ⟨pre ++ [y], post, 3, by simp [hpp], rfl, ?_, ?_⟩
      · (simp only [go_sem, Nat.reduceAdd, Nat.reduceEqDiff, reduceIte, go_sem, and_self, and_true, true_and, implies_true, List.take_succ_cons, List.take_zero, and_true, true_and]; try omega)
        exact ⟨hab _ (by omega), by omega⟩
      · (simp only [go_sem, Nat.reduceAdd, Nat.reduceEqDiff, reduceIte, go_sem, and_self, and_true, true_and, implies_true, List.take_succ_cons, List.take_zero, and_true, true_and]; try omega)
      · simp [go_sem]; omega
      · rw [hsn, hpl2]; simp
  · obtain ⟨rfl, rfl⟩ := nilOf hpp (by omega)
    repeat (first | (with_reducible first | refine SW.seq ?_ | refine SW.block ?_ | refine SW.rowC ?_ | refine SW.skip ?_ | refine SW.exit ?_ | intro _ | refine And.intro (by omega) ?_) | simp (config := { maxSteps := 1000000 }) (disch := (first | omega | (simp only [go_sem]; try omega))) only [go_sem, Nat.reduceAdd, Nat.reduceEqDiff, Nat.reduceLeDiff, Nat.reduceMul, Nat.reduceLT, reduceIte, Int.reduceToNat, w64_id, cast_succ])
    refine SW.ret ?_; (try simp only [go_sem]); (first | refine FunPost.one ?_ | refine FunPost.two ?_ | refine FunPost.three ?_); (try simp (config := { maxSteps := 1000000 }) (disch := (first | omega | (simp only [go_sem]; try omega))) only [go_sem, Nat.reduceAdd, Nat.reduceEqDiff, Nat.reduceLeDiff, Nat.reduceMul, Nat.reduceLT, reduceIte, Int.reduceToNat, w64_id, cast_succ])
    rw [← hL0]
    exact GR.of ⟨ver, rfl, rfl⟩
end Go.Proofs.YthogadbnddmkdaaGreat
namespace Go.Proofs.YthogadbnddmkdaaGreat
open Go.Av
abbrev f_impl_cyclesOf : Nat := 113
def c_impl_cyclesOf : SC :=
 .seq (.reg [
     ⟨(some 2), .mv (.const (.slice none 0 0)), none⟩] [0])
 (.seq (.reg [
     ⟨(some 8), .mv (.tmp 0), none⟩,
     ⟨(some 9), .len (.tmp 8), none⟩,
     ⟨(some 10), .mslice 4 1 (.bool false) (.tmp 9) (.tmp 9), none⟩,
     ⟨(some 3), .mv (.tmp 10), none⟩] [0, 3])
 (.seq (.reg [
     ⟨(some 4), .mv (.const (.slice none 0 0)), none⟩] [0, 3, 4])
 (.seq (.seq (.reg [
     ⟨(some 11), .mv (.tmp 0), none⟩,
     ⟨(some 12), .len (.tmp 11), none⟩,
     ⟨(some 13), .mv (.const (.int .i64 0)), none⟩] [0, 3, 4, 12, 13])
 (.block 0 (.loop [0, 3, 4, 12, 13]
   (.seq (.reg [
       ⟨(some 14), .bin .lss (.tmp 13) (.tmp 12), none⟩] [0, 3, 4, 12, 13, 14])
   (.seq (.cond (.tmp 14)
    (.skip)
    (.exit 0))
   (.seq (.block 1 (.seq (.reg [
        ⟨(some 15), .mv (.tmp 13), none⟩,
        ⟨(some 5), .mv (.tmp 15), none⟩] [0, 3, 4, 5, 12, 13])
    (.seq (.reg [
        ⟨(some 6), .mv (.const (.slice none 0 0)), none⟩] [0, 3, 4, 5, 6, 12, 13])
    (.seq (.seq (.reg [
        ⟨(some 16), .mv (.tmp 5), none⟩,
        ⟨(some 7), .mv (.tmp 16), none⟩] [0, 3, 4, 6, 7, 12, 13])
    (.block 2 (.loop [0, 3, 4, 6, 7, 12, 13]
      (.seq (.seq (.reg [
          ⟨(some 17), .mv (.tmp 3), none⟩,
          ⟨(some 18), .mv (.tmp 7), none⟩,
          ⟨(some 19), .iaddr 1 (.tmp 17) (.tmp 18), none⟩,
          ⟨(some 20), .load 1 false (.tmp 19), none⟩,
          ⟨(some 21), .un .not (.tmp 20), none⟩] [0, 3, 4, 6, 7, 12, 13, 21])
      (.cond (.tmp 21)
       (.skip)
       (.exit 2)))
      (.seq (.block 3 (.seq (.reg [
           ⟨(some 26), .mv (.tmp 3), none⟩,
           ⟨(some 27), .mv (.tmp 7), none⟩,
           ⟨(some 28), .iaddr 1 (.tmp 26) (.tmp 27), none⟩,
           ⟨none, .store 1 (.tmp 28) (.const (.bool true)), none⟩] [0, 3, 4, 6, 7, 12, 13])
       (.reg [
           ⟨(some 29), .mv (.tmp 6), none⟩,
           ⟨(some 30), .mv (.tmp 7), none⟩,
           ⟨(some 31), .bslice 2 1 1 [(.int .i64 0)] [(0, (.tmp 30))], none⟩,
           ⟨(some 32), .app 2 1 8 (.tmp 29) (.tmp 31), none⟩,
           ⟨(some 6), .mv (.tmp 32), none⟩] [0, 3, 4, 6, 7, 12, 13])))
      (.reg [
          ⟨(some 22), .mv (.tmp 0), none⟩,
          ⟨(some 23), .mv (.tmp 7), none⟩,
          ⟨(some 24), .iaddr 1 (.tmp 22) (.tmp 23), none⟩,
          ⟨(some 25), .load 1 false (.tmp 24), none⟩,
          ⟨(some 7), .mv (.tmp 25), none⟩] [0, 3, 4, 6, 7, 12, 13]))))))
    (.seq (.reg [
        ⟨(some 33), .mv (.tmp 6), none⟩,
        ⟨(some 34), .len (.tmp 33), none⟩,
        ⟨(some 35), .bin .gtr (.tmp 34) (.const (.int .i64 0)), none⟩] [0, 3, 4, 6, 12, 13, 35])
    (.cond (.tmp 35)
     (.reg [
         ⟨(some 36), .mv (.tmp 4), none⟩,
         ⟨(some 37), .mv (.tmp 6), none⟩,
         ⟨(some 38), .bslice 50 1 1 [(.slice none 0 0)] [(0, (.tmp 37))], none⟩,
         ⟨(some 39), .app 50 1 24 (.tmp 36) (.tmp 38), none⟩,
         ⟨(some 4), .mv (.tmp 39), none⟩] [0, 3, 4, 12, 13])
     (.skip)))))))
   (.reg [
       ⟨(some 40), .bin .add (.tmp 13) (.const (.int .i64 1)), none⟩,
       ⟨(some 13), .mv (.tmp 40), none⟩] [0, 3, 4, 12, 13])))))))
 (.seq (.reg [
     ⟨(some 41), .mv (.tmp 4), none⟩,
     ⟨(some 2), .mv (.tmp 41), none⟩] [2])
 (.ret)))))
theorem s_impl_cyclesOf : stripF Tryz.prog 113 [[0], [0, 3], [0, 3, 4], [0, 3, 4, 12, 13], [0, 3, 4, 12, 13], [0, 3, 4, 12, 13, 14], [0, 3, 4, 5, 12, 13], [0, 3, 4, 5, 6, 12, 13], [0, 3, 4, 6, 7, 12, 13], [0, 3, 4, 6, 7, 12, 13], [0, 3, 4, 6, 7, 12, 13, 21], [0, 3, 4, 6, 7, 12, 13], [0, 3, 4, 6, 7, 12, 13], [0, 3, 4, 6, 7, 12, 13], [0, 3, 4, 6, 12, 13, 35], [0, 3, 4, 12, 13], [0, 3, 4, 12, 13], [2]] = some (c_impl_cyclesOf, [.tmp 2], 42) := by kernel_rfl
def cyI : Nat → List Int → List Int → List Bool → Int → List Int × List Bool
  | 0, _, c, s, _ => (c, s)
  | f + 1, p, c, s, y => if s.getD y.toNat false = true then (c, s) else cyI f p (c ++ [y]) (s.set y.toNat true) (pa p y)
theorem cyI_t {f : Nat} {p c : List Int} {s : List Bool} {y : Int} (h : s.getD y.toNat false = true) : cyI f p c s y = (c, s) := by
  cases f with
  | zero => rfl
  | succ f => rw [cyI, if_pos h]
theorem cyI_f {f : Nat} {p c : List Int} {s : List Bool} {y : Int} (h : s.getD y.toNat false = false) : cyI (f + 1) p c s y = cyI f p (c ++ [y]) (s.set y.toNat true) (pa p y) := by
  rw [cyI, if_neg (by rw [h]; simp)]
theorem set_count : ∀ {s : List Bool} {i : Nat}, i < s.length → s.getD i false = false → (s.set i true).count false + 1 = s.count false
  | [], i, h, _ => by simp at h
  | b :: s, 0, _, h2 => by
    simp at h2; subst h2; simp
  | b :: s, i + 1, h, h2 => by
    have := set_count (s := s) (i := i) (by simpa using h) (by simpa using h2)
    rw [List.set_cons_succ, List.count_cons, List.count_cons]; omega
def cyS (p : List Int) (st : List (List Int) × List Bool) (x : Nat) : List (List Int) × List Bool := (if (cyI (st.2.count false) p [] st.2 x).1.length = 0 then st.1 else st.1 ++ [(cyI (st.2.count false) p [] st.2 x).1], (cyI (st.2.count false) p [] st.2 x).2)
def cyL (p : List Int) (k : Nat) : List (List Int) × List Bool := (List.range k).foldl (cyS p) ([], List.replicate p.length false)
theorem cyL_zero (p : List Int) : cyL p 0 = ([], List.replicate p.length false) := rfl
theorem cyL_succ (p : List Int) (k : Nat) : cyL p (k + 1) = cyS p (cyL p k) k := by unfold cyL; rw [List.range_succ, List.foldl_append]; rfl
theorem cyI_len (p : List Int) : ∀ (f : Nat) (c : List Int) (s : List Bool) (y : Int), (cyI f p c s y).2.length = s.length
  | 0, _, _, _ => rfl
  | f + 1, c, s, y => by
    rw [cyI]; split
    · rfl
    · rw [cyI_len p f]; simp
theorem cyL_inv (p : List Int) (k : Nat) : (cyL p k).2.length = p.length ∧ (cyL p k).1.length ≤ k := by
  induction k with
  | zero => rw [cyL_zero]; simp
  | succ k ih =>
    rw [cyL_succ]
    unfold cyS
    refine ⟨by rw [cyI_len]; exact ih.1, ?_⟩
    simp only
    split
    · omega
    · simp; omega
theorem cyclesOf_fn (n : Nat) (p : List Int) (hn : n ≤ 32) (hp : permOk n p) : PFn Tryz.prog f_impl_cyclesOf [ilS p] (ilSS (cyL p n).1) := by
  have hpl := hp.1
  have hz : cyL p 0 = ([], List.replicate n false) := by rw [cyL_zero, hpl]
  intro H; refine ACalls.introB s_impl_cyclesOf (by simp) ?_; intro hB hA; unfold c_impl_cyclesOf; simp (config := { maxSteps := 1000000 }) (disch := (first | omega | (simp only [go_sem]; try omega))) only [go_sem, Nat.reduceAdd, Nat.reduceEqDiff, Nat.reduceLeDiff, Nat.reduceMul, Nat.reduceLT, reduceIte, Int.reduceToNat, w64_id, cast_succ]
  repeat (first | (with_reducible first | refine SW.seq ?_ | refine SW.block ?_ | refine SW.rowC ?_ | refine SW.skip ?_ | refine SW.exit ?_ | intro _ | refine And.intro (by omega) ?_) | simp (config := { maxSteps := 1000000 }) (disch := (first | omega | (simp only [go_sem]; try omega))) only [go_sem, Nat.reduceAdd, Nat.reduceEqDiff, Nat.reduceLeDiff, Nat.reduceMul, Nat.reduceLT, reduceIte, Int.reduceToNat, w64_id, cast_succ])
  refine SW.ghost (Gh.name 4 50 1 rfl) ?_
  simp (config := { maxSteps := 1000000 }) (disch := (first | omega | (simp only [go_sem]; try omega))) only [go_sem, Nat.reduceAdd, Nat.reduceEqDiff, Nat.reduceLeDiff, Nat.reduceMul, Nat.reduceLT, reduceIte, Int.reduceToNat, w64_id, cast_succ]
  refine SW.loopE (fun E0 H0 q E' H' => ∃ (x ver : Nat), x ≤ n ∧ q = n - x ∧ E' = aput (aput E0 13 (I x)) 4 (.nm (H.length + 1) ver 0 (cyL p x).1.length) ∧ H' = H ++ [⟨0, 4, 1, (cyL p x).2.map Bv⟩, ⟨ver, 50, 1, (cyL p x).1.map ilS⟩]) n ⟨0, 0, by omega, by omega, by rw [hz]; rfl, by rw [hz]; simp [hpl, List.map_replicate]⟩ ?_
  rintro q E' H' ⟨x, ver, hx, rfl, rfl, rfl⟩
  have hinv := cyL_inv p x
  have hsu := cyL_succ p x
  generalize hcl0 : cyL p x = st at *
  obtain ⟨cs, s0⟩ := st
  simp only at hinv
  unfold cyS at hsu
  simp only at hsu
  simp (config := { maxSteps := 1000000 }) (disch := (first | omega | (simp only [go_sem]; try omega))) only [go_sem, Nat.reduceAdd, Nat.reduceEqDiff, Nat.reduceLeDiff, Nat.reduceMul, Nat.reduceLT, reduceIte, Int.reduceToNat, w64_id, cast_succ]
  repeat (first | (with_reducible first | refine SW.seq ?_ | refine SW.block ?_ | refine SW.rowC ?_ | refine SW.skip ?_ | refine SW.exit ?_ | intro _ | refine And.intro (by omega) ?_) | simp (config := { maxSteps := 1000000 }) (disch := (first | omega | (simp only [go_sem]; try omega))) only [go_sem, Nat.reduceAdd, Nat.reduceEqDiff, Nat.reduceLeDiff, Nat.reduceMul, Nat.reduceLT, reduceIte, Int.reduceToNat, w64_id, cast_succ])
  (first | refine SW.condD rfl (fun h => ?_) (fun h => ?_) | refine SW.condN rfl (fun h => ?_) (fun h => ?_) | refine SW.condNB rfl (fun h => ?_) (fun h => ?_) | refine SW.condB rfl (fun h => ?_) (fun h => ?_))
  · repeat (first | (with_reducible first | refine SW.seq ?_ | refine SW.block ?_ | refine SW.rowC ?_ | refine SW.skip ?_ | refine SW.exit ?_ | intro _ | refine And.intro (by omega) ?_) | simp (config := { maxSteps := 1000000 }) (disch := (first | omega | (simp only [go_sem]; try omega))) only [go_sem, Nat.reduceAdd, Nat.reduceEqDiff, Nat.reduceLeDiff, Nat.reduceMul, Nat.reduceLT, reduceIte, Int.reduceToNat, w64_id, cast_succ])
    refine SW.ghost (Gh.name 6 2 1 rfl) ?_
    simp (config := { maxSteps := 1000000 }) (disch := (first | omega | (simp only [go_sem]; try omega))) only [go_sem, Nat.reduceAdd, Nat.reduceEqDiff, Nat.reduceLeDiff, Nat.reduceMul, Nat.reduceLT, reduceIte, Int.reduceToNat, w64_id, cast_succ]
    generalize hR : cyI (s0.count false) p [] s0 x = R at *
    refine SW.loopE (fun E0 H0 q E' H' => ∃ (c : List Int) (s : List Bool) (y : Nat) (v2 : Nat), q = s.count false ∧ s.length = n ∧ y < n ∧ c.length + s.count false ≤ n ∧ cyI (s.count false) p c s y = R ∧ E' = aput (aput E0 7 (I y)) 6 (.nm (H.length + 2) v2 0 c.length) ∧ H' = H ++ [⟨0, 4, 1, s.map Bv⟩, ⟨ver, 50, 1, cs.map ilS⟩, ⟨v2, 2, 1, c.map I⟩]) (s0.count false) ⟨[], s0, x, 0, rfl, by omega, by omega, by have := List.count_le_length (a := false) (l := s0); simp; omega, hR, rfl, rfl⟩ ?_
    rintro q E' H' ⟨c, s, y, v2, rfl, hsl, hy, hcl, hcy, rfl, rfl⟩
    have hty : ((y : Int)).toNat = y := by simp
    have hys : y < s.length := by omega
    have hyp : y < p.length := by omega
    have htk : (s.map Bv).take p.length = s.map Bv := List.take_of_length_le (by simp; omega)
    have hgb : (s.map Bv)[y]? = some (Bv (s.getD y false)) := getB hys
    have hpy := hp.2.2 (p.getD y 0) (by rw [List.getD_eq_getElem?_getD, List.getElem?_eq_getElem (by omega)]; exact List.getElem_mem _)
    obtain ⟨z, hz2⟩ := Int.eq_ofNat_of_zero_le hpy.1
    simp (config := { maxSteps := 1000000 }) (disch := (first | omega | (simp only [go_sem]; try omega))) only [go_sem, Nat.reduceAdd, Nat.reduceEqDiff, Nat.reduceLeDiff, Nat.reduceMul, Nat.reduceLT, reduceIte, Int.reduceToNat, w64_id, cast_succ]
    by_cases hs : s.getD y false = true
    · repeat (first | (with_reducible first | refine SW.seq ?_ | refine SW.block ?_ | refine SW.rowC ?_ | refine SW.skip ?_ | refine SW.exit ?_ | intro _ | refine And.intro (by omega) ?_) | simp (config := { maxSteps := 1000000 }) (disch := (first | omega | (simp only [go_sem]; try omega))) only [go_sem, Nat.reduceAdd, Nat.reduceEqDiff, Nat.reduceLeDiff, Nat.reduceMul, Nat.reduceLT, reduceIte, Int.reduceToNat, w64_id, cast_succ, htk, hgb, hs])
      refine SW.condF rfl ?_
      repeat (first | (with_reducible first | refine SW.seq ?_ | refine SW.block ?_ | refine SW.rowC ?_ | refine SW.skip ?_ | refine SW.exit ?_ | intro _ | refine And.intro (by omega) ?_) | simp (config := { maxSteps := 1000000 }) (disch := (first | omega | (simp only [go_sem]; try omega))) only [go_sem, Nat.reduceAdd, Nat.reduceEqDiff, Nat.reduceLeDiff, Nat.reduceMul, Nat.reduceLT, reduceIte, Int.reduceToNat, w64_id, cast_succ])
      have hcR : R = (c, s) := by rw [← hcy, cyI_t (by simpa using hs)]
      (first | refine SW.condD rfl (fun h4 => ?_) (fun h4 => ?_) | refine SW.condN rfl (fun h4 => ?_) (fun h4 => ?_) | refine SW.condNB rfl (fun h4 => ?_) (fun h4 => ?_) | refine SW.condB rfl (fun h4 => ?_) (fun h4 => ?_))
      · have e2 : ∀ a b c : Blk, H ++ [a, b, c] = (H ++ [a, b]) ++ [c] := fun a b c => by simp
        have hst : cyL p (x + 1) = (cs ++ [c], s) := by rw [hsu, hcR]; simp only; rw [if_neg (by omega)]
        rw [e2]
        have hrow := ren_rowI (H := H ++ [(⟨0, 4, 1, s.map Bv⟩ : Blk), ⟨ver, 50, 1, cs.map ilS⟩] ++ [⟨v2, 2, 1, c.map I⟩]) (k := (H ++ [(⟨0, 4, 1, s.map Bv⟩ : Blk), ⟨ver, 50, 1, cs.map ilS⟩]).length) (js := []) (r := H.length + 2) (ver := v2) (ty := 2) (xs := c) (by simp) (by simp) (by rw [List.getElem?_append_right (by simp)]; simp)
        have hB1 : HB (H ++ [(⟨0, 4, 1, s.map Bv⟩ : Blk), ⟨ver, 50, 1, cs.map ilS⟩]) := hB.app (k := H.length) (by (simp only [go_sem, Nat.reduceAdd, Nat.reduceEqDiff, reduceIte, go_sem, and_self, and_true, true_and, implies_true, List.take_succ_cons, List.take_zero, and_true, true_and]; try omega)) (by simp)
        refine SW.froz hB1 (by simp) (.cons _ (.old _ (by simp [go_sem])) (.cons _ (.old _ (by simp [go_sem])) (.cons _ (.old _ (by simp [go_sem])) (.cons _ hrow (.cons _ (ren_I _) (.cons _ (ren_I _) (.cons _ (ren_B _) .nil))))))) ?_
        have htl2 : (cs.map ilS).take cs.length = cs.map ilS := List.take_of_length_le (by simp)
        repeat (first | (with_reducible first | refine SW.seq ?_ | refine SW.block ?_ | refine SW.rowC ?_ | refine SW.skip ?_ | refine SW.exit ?_ | intro _ | refine And.intro (by omega) ?_) | simp (config := { maxSteps := 1000000 }) (disch := (first | omega | (simp only [go_sem]; try omega))) only [go_sem, Nat.reduceAdd, Nat.reduceEqDiff, Nat.reduceLeDiff, Nat.reduceMul, Nat.reduceLT, reduceIte, Int.reduceToNat, w64_id, cast_succ, htl2])
        refine SLoop.nextT 2 (n - (x + 1)) hB (by omega) (by omega) (by simp) ?_ ?_ ⟨x + 1, ver + 1, by omega, rfl, ?_, ?_⟩
        · (simp only [go_sem, Nat.reduceAdd, Nat.reduceEqDiff, reduceIte, go_sem, and_self, and_true, true_and, implies_true, List.take_succ_cons, List.take_zero, and_true, true_and]; try omega)
        · (simp only [go_sem, Nat.reduceAdd, Nat.reduceEqDiff, reduceIte, go_sem, and_self, and_true, true_and, implies_true, List.take_succ_cons, List.take_zero, and_true, true_and]; try omega)
        · rw [hst]; simp [go_sem]
        · rw [hst]; simp
      · have hc0 : c = [] := by cases c with
          | nil => rfl
          | cons a c => exfalso; simp at h4
        have hst : cyL p (x + 1) = (cs, s) := by rw [hsu, hcR]; simp only; rw [if_pos (by rw [hc0]; rfl)]
        repeat (first | (with_reducible first | refine SW.seq ?_ | refine SW.block ?_ | refine SW.rowC ?_ | refine SW.skip ?_ | refine SW.exit ?_ | intro _ | refine And.intro (by omega) ?_) | simp (config := { maxSteps := 1000000 }) (disch := (first | omega | (simp only [go_sem]; try omega))) only [go_sem, Nat.reduceAdd, Nat.reduceEqDiff, Nat.reduceLeDiff, Nat.reduceMul, Nat.reduceLT, reduceIte, Int.reduceToNat, w64_id, cast_succ])
        refine SLoop.nextT 2 (n - (x + 1)) hB (by omega) (by omega) (by simp) ?_ ?_ ⟨x + 1, ver, by omega, rfl, ?_, ?_⟩
        · (simp only [go_sem, Nat.reduceAdd, Nat.reduceEqDiff, reduceIte, go_sem, and_self, and_true, true_and, implies_true, List.take_succ_cons, List.take_zero, and_true, true_and]; try omega)
        · (simp only [go_sem, Nat.reduceAdd, Nat.reduceEqDiff, reduceIte, go_sem, and_self, and_true, true_and, implies_true, List.take_succ_cons, List.take_zero, and_true, true_and]; try omega)
        · rw [hst]; simp [go_sem]
        · rw [hst]; simp
    · rw [Bool.not_eq_true] at hs
      have hco := set_count (s := s) (i := y) (by omega) hs
      have hcf : cyI (s.count false) p c s y = cyI ((s.set y true).count false) p (c ++ [(y : Int)]) (s.set y true) z := by
        rw [← hco, cyI_f (by simpa using hs)]
        unfold pa
        rw [hty, hz2]
      have htl : (c.map I).take c.length = c.map I := List.take_of_length_le (by simp)
      repeat (first | (with_reducible first | refine SW.seq ?_ | refine SW.block ?_ | refine SW.rowC ?_ | refine SW.skip ?_ | refine SW.exit ?_ | intro _ | refine And.intro (by omega) ?_) | simp (config := { maxSteps := 1000000 }) (disch := (first | omega | (simp only [go_sem]; try omega))) only [go_sem, Nat.reduceAdd, Nat.reduceEqDiff, Nat.reduceLeDiff, Nat.reduceMul, Nat.reduceLT, reduceIte, Int.reduceToNat, w64_id, cast_succ, htk, hgb, hs])
      refine SW.condT rfl ?_
      repeat (first | (with_reducible first | refine SW.seq ?_ | refine SW.block ?_ | refine SW.rowC ?_ | refine SW.skip ?_ | refine SW.exit ?_ | intro _ | refine And.intro (by omega) ?_) | simp (config := { maxSteps := 1000000 }) (disch := (first | omega | (simp only [go_sem]; try omega))) only [go_sem, Nat.reduceAdd, Nat.reduceEqDiff, Nat.reduceLeDiff, Nat.reduceMul, Nat.reduceLT, reduceIte, Int.reduceToNat, w64_id, cast_succ, htk, htl, hz2])
      refine SLoop.nextT 3 ((s.set y true).count false) hB (by omega) (by omega) (by simp) ?_ ?_ ⟨c ++ [(y : Int)], s.set y true, z, v2 + 1, rfl, by simp; omega, by omega, by simp; omega, by rw [← hcy, hcf], ?_, ?_⟩
      · (simp only [go_sem, Nat.reduceAdd, Nat.reduceEqDiff, reduceIte, go_sem, and_self, and_true, true_and, implies_true, List.take_succ_cons, List.take_zero, and_true, true_and]; try omega)
      · (simp only [go_sem, Nat.reduceAdd, Nat.reduceEqDiff, reduceIte, go_sem, and_self, and_true, true_and, implies_true, List.take_succ_cons, List.take_zero, and_true, true_and]; try omega)
      · simp [go_sem]
      · simp
  · have : x = n := by omega
    subst this
    repeat (first | (with_reducible first | refine SW.seq ?_ | refine SW.block ?_ | refine SW.rowC ?_ | refine SW.skip ?_ | refine SW.exit ?_ | intro _ | refine And.intro (by omega) ?_) | simp (config := { maxSteps := 1000000 }) (disch := (first | omega | (simp only [go_sem]; try omega))) only [go_sem, Nat.reduceAdd, Nat.reduceEqDiff, Nat.reduceLeDiff, Nat.reduceMul, Nat.reduceLT, reduceIte, Int.reduceToNat, w64_id, cast_succ])
    refine SW.ret ?_; (try simp only [go_sem]); (first | refine FunPost.one ?_ | refine FunPost.two ?_ | refine FunPost.three ?_); (try simp (config := { maxSteps := 1000000 }) (disch := (first | omega | (simp only [go_sem]; try omega))) only [go_sem, Nat.reduceAdd, Nat.reduceEqDiff, Nat.reduceLeDiff, Nat.reduceMul, Nat.reduceLT, reduceIte, Int.reduceToNat, w64_id, cast_succ])
    exact GR.froz (froz_rowS (r := H.length + 1) (ver := ver) (ty := tyLL) (xs := cs) (by omega) (by simp)) ⟨by rw [hcl0], rfl⟩
end Go.Proofs.YthogadbnddmkdaaGreat
namespace Go.Proofs.YthogadbnddmkdaaGreat
open Go.Av
abbrev f_impl_fixedSets : Nat := 63
def c_impl_fixedSets : SC :=
 .seq (.reg [
     ⟨(some 4), .mv (.const (.int .i64 0)), none⟩] [0, 1])
 (.seq (.reg [
     ⟨(some 9), .mv (.tmp 1), none⟩,
     ⟨(some 10), .bin .add (.tmp 9) (.const (.int .i64 1)), none⟩,
     ⟨(some 11), .mslice 2 8 (.int .i64 0) (.tmp 10) (.tmp 10), none⟩,
     ⟨(some 5), .mv (.tmp 11), none⟩] [0, 1, 5])
 (.seq (.reg [
     ⟨(some 12), .mv (.tmp 5), none⟩,
     ⟨(some 13), .iaddr 1 (.tmp 12) (.const (.int .i64 0)), none⟩,
     ⟨none, .store 1 (.tmp 13) (.const (.int .i64 1)), none⟩] [0, 1, 5])
 (.seq (.seq (.reg [
     ⟨(some 14), .mv (.tmp 0), none⟩,
     ⟨(some 15), .call 113 [(.tmp 14)], none⟩,
     ⟨(some 16), .len (.tmp 15), none⟩,
     ⟨(some 17), .mv (.const (.int .i64 0)), none⟩] [1, 5, 15, 16, 17])
 (.block 0 (.loop [1, 5, 15, 16, 17]
   (.seq (.reg [
       ⟨(some 18), .bin .lss (.tmp 17) (.tmp 16), none⟩] [1, 5, 15, 16, 17, 18])
   (.seq (.cond (.tmp 18)
    (.skip)
    (.exit 0))
   (.seq (.block 1 (.seq (.reg [
        ⟨(some 19), .iaddr 1 (.tmp 15) (.tmp 17), none⟩,
        ⟨(some 20), .load 1 false (.tmp 19), none⟩,
        ⟨(some 7), .mv (.tmp 20), none⟩] [1, 5, 7, 15, 16, 17])
    (.seq (.reg [
        ⟨(some 21), .mv (.tmp 1), none⟩,
        ⟨(some 8), .mv (.tmp 21), none⟩] [1, 5, 7, 8, 15, 16, 17])
    (.block 2 (.loop [1, 5, 7, 8, 15, 16, 17]
      (.seq (.seq (.reg [
          ⟨(some 22), .mv (.tmp 8), none⟩,
          ⟨(some 23), .mv (.tmp 7), none⟩,
          ⟨(some 24), .call 114 [(.tmp 23)], none⟩,
          ⟨(some 25), .bin .geq (.tmp 22) (.tmp 24), none⟩] [1, 5, 7, 8, 15, 16, 17, 25])
      (.cond (.tmp 25)
       (.skip)
       (.exit 2)))
      (.seq (.block 3 (.reg [
           ⟨(some 28), .mv (.tmp 5), none⟩,
           ⟨(some 29), .mv (.tmp 8), none⟩,
           ⟨(some 30), .iaddr 1 (.tmp 28) (.tmp 29), none⟩,
           ⟨(some 31), .load 1 false (.tmp 30), none⟩,
           ⟨(some 32), .mv (.tmp 5), none⟩,
           ⟨(some 33), .mv (.tmp 8), none⟩,
           ⟨(some 34), .mv (.tmp 7), none⟩,
           ⟨(some 35), .qcall 114 [(.tmp 34)], none⟩,
           ⟨(some 36), .bin .sub (.tmp 33) (.tmp 35), none⟩,
           ⟨(some 37), .iaddr 1 (.tmp 32) (.tmp 36), none⟩,
           ⟨(some 38), .load 1 false (.tmp 37), none⟩,
           ⟨(some 39), .bin .add (.tmp 31) (.tmp 38), none⟩,
           ⟨(some 40), .iaddr 1 (.tmp 28) (.tmp 29), none⟩,
           ⟨none, .store 1 (.tmp 40) (.tmp 39), none⟩] [1, 5, 7, 8, 15, 16, 17]))
      (.reg [
          ⟨(some 26), .mv (.tmp 8), none⟩,
          ⟨(some 27), .bin .sub (.tmp 26) (.const (.int .i64 1)), none⟩,
          ⟨(some 8), .mv (.tmp 27), none⟩] [1, 5, 7, 8, 15, 16, 17]))))))))
   (.reg [
       ⟨(some 41), .bin .add (.tmp 17) (.const (.int .i64 1)), none⟩,
       ⟨(some 17), .mv (.tmp 41), none⟩] [1, 5, 15, 16, 17])))))))
 (.seq (.reg [
     ⟨(some 42), .mv (.tmp 5), none⟩,
     ⟨(some 43), .mv (.tmp 1), none⟩,
     ⟨(some 44), .iaddr 1 (.tmp 42) (.tmp 43), none⟩,
     ⟨(some 45), .load 1 false (.tmp 44), none⟩,
     ⟨(some 4), .mv (.tmp 45), none⟩] [4])
 (.ret)))))
theorem s_impl_fixedSets : stripF Tryz.prog 63 [[0, 1], [0, 1, 5], [0, 1, 5], [1, 5, 15, 16, 17], [1, 5, 15, 16, 17], [1, 5, 15, 16, 17, 18], [1, 5, 7, 15, 16, 17], [1, 5, 7, 8, 15, 16, 17], [1, 5, 7, 8, 15, 16, 17], [1, 5, 7, 8, 15, 16, 17, 25], [1, 5, 7, 8, 15, 16, 17], [1, 5, 7, 8, 15, 16, 17], [1, 5, 15, 16, 17], [4]] = some (c_impl_fixedSets, [.tmp 4], 46) := by kernel_rfl
def wyL (m k : Nat) (w : List Int) : Nat → List Int
  | 0 => w
  | j + 1 => (wyL m k w j).set (k - j) ((wyL m k w j).getD (k - j) 0 + (wyL m k w j).getD (k - j - m) 0)
theorem wyL_len (m k : Nat) (w : List Int) : ∀ j, (wyL m k w j).length = w.length
  | 0 => rfl
  | j + 1 => by rw [wyL, List.length_set, wyL_len m k w j]
def wIn (B : Int) (w : List Int) : Prop := ∀ i, 0 ≤ w.getD i 0 ∧ w.getD i 0 ≤ B
theorem getD_set (w : List Int) (a i : Nat) (v : Int) : (w.set a v).getD i 0 = if a = i ∧ a < w.length then v else w.getD i 0 := by
  rw [List.getD_eq_getElem?_getD, List.getElem?_set]
  by_cases h : a = i
  · subst h
    by_cases h2 : a < w.length
    · simp [h2]
    · simp [h2]
  · simp [h]
theorem wyL_in {m k : Nat} {w : List Int} {B : Int} (hw : wIn B w) : ∀ j, j ≤ k + 1 - m → wIn (2 * B) (wyL m k w j) ∧ ∀ i, i + j ≤ k → (wyL m k w j).getD i 0 = w.getD i 0
  | 0, _ => ⟨fun i => by have := hw i; rw [wyL]; omega, fun i _ => rfl⟩
  | j + 1, hj => by
    have ih := wyL_in (m := m) (k := k) hw j (by omega)
    rw [wyL]
    refine ⟨fun i => ?_, fun i hi => ?_⟩
    · rw [getD_set]
      split
      · rw [ih.2 (k - j) (by omega), ih.2 (k - j - m) (by omega)]
        have h1 := hw (k - j); have h2 := hw (k - j - m)
        omega
      · exact ih.1 i
    · rw [getD_set, if_neg (by omega)]
      exact ih.2 i (by omega)
def fixW (k : Nat) (cs : List (List Int)) : List Int := cs.foldl (fun w c => wyL c.length k w (k + 1 - c.length)) ((List.replicate (k + 1) (0 : Int)).set 0 1)
theorem fixW_snoc (k : Nat) (cs : List (List Int)) (c : List Int) : fixW k (cs ++ [c]) = wyL c.length k (fixW k cs) (k + 1 - c.length) := by unfold fixW; rw [List.foldl_append]; rfl
theorem fixW_nil (k : Nat) : fixW k [] = (List.replicate (k + 1) (0 : Int)).set 0 1 := rfl
theorem fixW_len (k : Nat) (cs : List (List Int)) : (fixW k cs).length = k + 1 := by
  rw [← List.reverse_reverse cs]
  induction cs.reverse with
  | nil => simp [fixW]
  | cons c l ih => rw [List.reverse_cons, fixW_snoc, wyL_len, ih]
theorem fixW_in (k : Nat) (cs : List (List Int)) : wIn (2 ^ cs.length) (fixW k cs) := by
  rw [← List.reverse_reverse cs]
  induction cs.reverse with
  | nil =>
    intro i
    rw [List.reverse_nil, fixW_nil, getD_set]
    split
    · simp
    · rw [List.getD_eq_getElem?_getD, List.getElem?_replicate]
      split <;> simp
  | cons c l ih =>
    rw [List.reverse_cons, fixW_snoc]
    have := (wyL_in (m := c.length) (k := k) ih (k + 1 - c.length) (Nat.le_refl _)).1
    rw [List.length_append, List.length_singleton, Int.pow_succ]
    intro i
    have := this i
    omega
theorem pow32 {t : Nat} (h : t ≤ 32) : (2 : Int) ^ t ≤ 4294967296 := by
  have : (2 : Nat) ^ t ≤ 2 ^ 32 := Nat.pow_le_pow_right (by omega) h
  have h2 : ((2 ^ t : Nat) : Int) = (2 : Int) ^ t := by simp
  omega
theorem cyI_le (p : List Int) : ∀ (f : Nat) (c : List Int) (s : List Bool) (y : Int), (cyI f p c s y).1.length ≤ c.length + f
  | 0, _, _, _ => Nat.le_refl _
  | f + 1, c, s, y => by
    rw [cyI]; split
    · simp
    · have := cyI_le p f (c ++ [y]) (s.set y.toNat true) (pa p y)
      simp at this ⊢; omega
theorem cyL_row (p : List Int) (k : Nat) : ∀ c ∈ (cyL p k).1, c.length ≤ p.length := by
  induction k with
  | zero => rw [cyL_zero]; simp
  | succ k ih =>
    have hi := cyL_inv p k
    rw [cyL_succ]
    unfold cyS
    simp only
    split
    · exact ih
    · intro c hc
      rcases List.mem_append.1 hc with h | h
      · exact ih c h
      · rw [List.mem_singleton.1 h]
        have h1 := cyI_le p ((cyL p k).2.count false) [] (cyL p k).2 k
        have h2 := List.count_le_length (a := false) (l := (cyL p k).2)
        simp at h1; omega
def fxV (p : List Int) (k : Nat) : Int := (fixW k (cyL p p.length).1).getD k 0
theorem fxV_in {p : List Int} {k : Nat} (h : p.length ≤ 32) : 0 ≤ fxV p k ∧ fxV p k ≤ 4294967296 := by
  have h1 := fixW_in k (cyL p p.length).1 k
  have h2 := (cyL_inv p p.length).2
  have h3 := pow32 (t := (cyL p p.length).1.length) (by omega)
  unfold fxV; omega
theorem fixedSets_fn (n k : Nat) (p : List Int) (hn : n ≤ 32) (hk : k ≤ n) (hp : permOk n p) : PFn Tryz.prog f_impl_fixedSets [ilS p, I k] (I (fxV p k)) := by
  have hpl := hp.1
  have hcy := cyclesOf_fn n p hn hp
  have hinv := (cyL_inv p p.length).2
  have hrow := cyL_row p p.length
  unfold fxV
  rw [← hpl] at hcy
  generalize (cyL p p.length).1 = cs at *
  intro H; refine ACalls.introB s_impl_fixedSets (by simp) ?_; intro hB hA; unfold c_impl_fixedSets; simp (config := { maxSteps := 1000000 }) (disch := (first | omega | (simp only [go_sem]; try omega))) only [go_sem, Nat.reduceAdd, Nat.reduceEqDiff, Nat.reduceLeDiff, Nat.reduceMul, Nat.reduceLT, reduceIte, Int.reduceToNat, w64_id, cast_succ]
  have hpc : PcS H [⟨0, 2, 1, (List.replicate (k+1) (0:Int)).map I⟩] 0 0 0 [I 1] (some ⟨0, 2, 1, (List.replicate (k+1) (0:Int)).map I⟩) = some (H ++ [⟨0, 2, 1, (fixW k []).map I⟩]) := by
    unfold PcS
    simp only
    rw [if_pos ⟨trivial, by simp⟩, fixW_nil]
    simp [setMany]
  have hwl := fixW_len k
  have hwi := fixW_in k
  repeat (first | (with_reducible first | refine SW.seq ?_ | refine SW.block ?_ | refine SW.rowC ?_ | refine SW.skip ?_ | refine SW.exit ?_ | intro _ | refine And.intro (by omega) ?_) | simp (config := { maxSteps := 1000000 }) (disch := (first | omega | (simp only [go_sem]; try omega))) only [go_sem, Nat.reduceAdd, Nat.reduceEqDiff, Nat.reduceLeDiff, Nat.reduceMul, Nat.reduceLT, reduceIte, Int.reduceToNat, w64_id, cast_succ])
  rw [hpc]
  repeat (first | (with_reducible first | refine SW.seq ?_ | refine SW.block ?_ | refine SW.rowC ?_ | refine SW.skip ?_ | refine SW.exit ?_ | refine PFn.use (hcy) ?_ | refine PFn.useq (hcy) ?_ | intro _ | refine And.intro (by omega) ?_) | simp (config := { maxSteps := 1000000 }) (disch := (first | omega | (simp only [go_sem]; try omega))) only [go_sem, Nat.reduceAdd, Nat.reduceEqDiff, Nat.reduceLeDiff, Nat.reduceMul, Nat.reduceLT, reduceIte, Int.reduceToNat, w64_id, cast_succ])
  refine SW.loopE (fun E0 H0 q E' H' => ∃ pre post : List (List Int), cs = pre ++ post ∧ q = post.length ∧ E' = aput E0 17 (I pre.length) ∧ H' = H ++ [⟨0, 2, 1, (fixW k pre).map I⟩]) cs.length ⟨[], cs, rfl, rfl, rfl, rfl⟩ ?_
  rintro q E' H' ⟨pre, post, hpp, rfl, rfl, rfl⟩
  have hsn := fixW_snoc k pre
  replace hwl := hwl pre
  have hpl2 : pre.length ≤ 32 := by rw [hpp] at hinv; simp at hinv; omega
  have hp32 := pow32 hpl2
  replace hwi := hwi pre
  generalize hB0 : (2 : Int) ^ pre.length = B at *
  generalize hW : fixW k pre = w at *
  simp (config := { maxSteps := 1000000 }) (disch := (first | omega | (simp only [go_sem]; try omega))) only [go_sem, Nat.reduceAdd, Nat.reduceEqDiff, Nat.reduceLeDiff, Nat.reduceMul, Nat.reduceLT, reduceIte, Int.reduceToNat, w64_id, cast_succ]
  repeat (first | (with_reducible first | refine SW.seq ?_ | refine SW.block ?_ | refine SW.rowC ?_ | refine SW.skip ?_ | refine SW.exit ?_ | intro _ | refine And.intro (by omega) ?_) | simp (config := { maxSteps := 1000000 }) (disch := (first | omega | (simp only [go_sem]; try omega))) only [go_sem, Nat.reduceAdd, Nat.reduceEqDiff, Nat.reduceLeDiff, Nat.reduceMul, Nat.reduceLT, reduceIte, Int.reduceToNat, w64_id, cast_succ])
  (first | refine SW.condD rfl (fun h => ?_) (fun h => ?_) | refine SW.condN rfl (fun h => ?_) (fun h => ?_) | refine SW.condNB rfl (fun h => ?_) (fun h => ?_) | refine SW.condB rfl (fun h => ?_) (fun h => ?_))
  · cases post with
    | nil => exfalso; subst hpp; simp at h
    | cons c post =>
    have hgc : cs.getD pre.length [] = c := by subst hpp; simp
    have hcl := hrow c (by rw [hpp]; simp)
    replace hsn := hsn c
    have hwy := fun j => wyL_in (m := c.length) (k := k) hwi j
    have hwyl := wyL_len c.length k w
    repeat (first | (with_reducible first | refine SW.seq ?_ | refine SW.block ?_ | refine SW.rowC ?_ | refine SW.skip ?_ | refine SW.exit ?_ | intro _ | refine And.intro (by omega) ?_) | simp (config := { maxSteps := 1000000 }) (disch := (first | omega | (simp only [go_sem]; try omega))) only [go_sem, Nat.reduceAdd, Nat.reduceEqDiff, Nat.reduceLeDiff, Nat.reduceMul, Nat.reduceLT, reduceIte, Int.reduceToNat, w64_id, cast_succ, hgc])
    refine SW.loopE (fun E0 H0 q E' H' => ∃ j : Nat, j ≤ k + 1 - c.length ∧ q = k + 1 - c.length - j ∧ E' = aput E0 8 (I ((k : Int) - j)) ∧ H' = H ++ [⟨0, 2, 1, (wyL c.length k w j).map I⟩]) (k + 1 - c.length) ⟨0, by omega, by omega, by simp [go_sem], rfl⟩ ?_
    rintro q E' H' ⟨j, hj, rfl, rfl, rfl⟩
    have hs2 : wyL c.length k w (j + 1) = (wyL c.length k w j).set (k - j) ((wyL c.length k w j).getD (k - j) 0 + (wyL c.length k w j).getD (k - j - c.length) 0) := rfl
    have hy2 := hwy j hj
    replace hwyl := hwyl j
    generalize hV : wyL c.length k w j = v at *
    simp (config := { maxSteps := 1000000 }) (disch := (first | omega | (simp only [go_sem]; try omega))) only [go_sem, Nat.reduceAdd, Nat.reduceEqDiff, Nat.reduceLeDiff, Nat.reduceMul, Nat.reduceLT, reduceIte, Int.reduceToNat, w64_id, cast_succ]
    repeat (first | (with_reducible first | refine SW.seq ?_ | refine SW.block ?_ | refine SW.rowC ?_ | refine SW.skip ?_ | refine SW.exit ?_ | refine PFn.use (size_fn c) ?_ | refine PFn.useq (size_fn c) ?_ | intro _ | refine And.intro (by omega) ?_) | simp (config := { maxSteps := 1000000 }) (disch := (first | omega | (simp only [go_sem]; try omega))) only [go_sem, Nat.reduceAdd, Nat.reduceEqDiff, Nat.reduceLeDiff, Nat.reduceMul, Nat.reduceLT, reduceIte, Int.reduceToNat, w64_id, cast_succ])
    (first | refine SW.condD rfl (fun h2 => ?_) (fun h2 => ?_) | refine SW.condN rfl (fun h2 => ?_) (fun h2 => ?_) | refine SW.condNB rfl (fun h2 => ?_) (fun h2 => ?_) | refine SW.condB rfl (fun h2 => ?_) (fun h2 => ?_))
    · obtain ⟨a, ha⟩ : ∃ a : Nat, a = k - j := ⟨_, rfl⟩
      obtain ⟨b, hb⟩ : ∃ b : Nat, b = a - c.length := ⟨_, rfl⟩
      have ea : (k : Int) - (j : Int) = (a : Int) := by omega
      have eb : (a : Int) - (c.length : Int) = (b : Int) := by omega
      rw [← ha, ← hb] at hs2
      have hva := hy2.1 a
      have hvb := hy2.1 b
      have hal : a < v.length := by omega
      have hbl : b < v.length := by omega
      have htv : (v.map I).take (k + 1) = v.map I := List.take_of_length_le (by simp; omega)
      have ga : (v.map I)[a]? = some (I (v.getD a 0)) := getI hal
      have gb : (v.map I)[b]? = some (I (v.getD b 0)) := getI hbl
      rw [ea]
      repeat (first | (with_reducible first | refine SW.seq ?_ | refine SW.block ?_ | refine SW.rowC ?_ | refine SW.skip ?_ | refine SW.exit ?_ | refine PFn.use (size_fn c) ?_ | refine PFn.useq (size_fn c) ?_ | intro _ | refine And.intro (by omega) ?_) | simp (config := { maxSteps := 1000000 }) (disch := (first | omega | (simp only [go_sem]; try omega))) only [go_sem, Nat.reduceAdd, Nat.reduceEqDiff, Nat.reduceLeDiff, Nat.reduceMul, Nat.reduceLT, reduceIte, Int.reduceToNat, w64_id, cast_succ, eb, htv, ga, gb])
      refine SLoop.nextT 1 (k + 1 - c.length - (j + 1)) hB (by omega) (by omega) (by simp) ?_ ?_ ⟨j + 1, by omega, rfl, ?_, ?_⟩
      · (simp only [go_sem, Nat.reduceAdd, Nat.reduceEqDiff, reduceIte, go_sem, and_self, and_true, true_and, implies_true, List.take_succ_cons, List.take_zero, and_true, true_and]; try omega)
      · (simp only [go_sem, Nat.reduceAdd, Nat.reduceEqDiff, reduceIte, go_sem, and_self, and_true, true_and, implies_true, List.take_succ_cons, List.take_zero, and_true, true_and]; try omega)
      · rw [show (k : Int) - ((j + 1 : Nat) : Int) = (a : Int) - 1 by omega]; simp [go_sem]
      · rw [hs2]; simp
    · have hje : j = k + 1 - c.length := by omega
      repeat (first | (with_reducible first | refine SW.seq ?_ | refine SW.block ?_ | refine SW.rowC ?_ | refine SW.skip ?_ | refine SW.exit ?_ | intro _ | refine And.intro (by omega) ?_) | simp (config := { maxSteps := 1000000 }) (disch := (first | omega | (simp only [go_sem]; try omega))) only [go_sem, Nat.reduceAdd, Nat.reduceEqDiff, Nat.reduceLeDiff, Nat.reduceMul, Nat.reduceLT, reduceIte, Int.reduceToNat, w64_id, cast_succ])
      refine SLoop.next post.length (by simp) ⟨pre ++ [c], post, by simp [hpp], rfl, ?_, ?_⟩
      · simp [go_sem]
      · rw [hsn, ← hje, hV]
  · have : post = [] := by cases post with
      | nil => rfl
      | cons x post => exfalso; subst hpp; simp at h; omega
    subst this
    rw [List.append_nil] at hpp
    subst hpp
    have hkl : k < w.length := by omega
    have gk : (w.map I)[k]? = some (I (w.getD k 0)) := getI hkl
    have htw : (w.map I).take (k + 1) = w.map I := List.take_of_length_le (by simp; omega)
    repeat (first | (with_reducible first | refine SW.seq ?_ | refine SW.block ?_ | refine SW.rowC ?_ | refine SW.skip ?_ | refine SW.exit ?_ | intro _ | refine And.intro (by omega) ?_) | simp (config := { maxSteps := 1000000 }) (disch := (first | omega | (simp only [go_sem]; try omega))) only [go_sem, Nat.reduceAdd, Nat.reduceEqDiff, Nat.reduceLeDiff, Nat.reduceMul, Nat.reduceLT, reduceIte, Int.reduceToNat, w64_id, cast_succ, htw, gk])
    refine SW.ret ?_; (try simp only [go_sem]); (first | refine FunPost.one ?_ | refine FunPost.two ?_ | refine FunPost.three ?_); (try simp (config := { maxSteps := 1000000 }) (disch := (first | omega | (simp only [go_sem]; try omega))) only [go_sem, Nat.reduceAdd, Nat.reduceEqDiff, Nat.reduceLeDiff, Nat.reduceMul, Nat.reduceLT, reduceIte, Int.reduceToNat, w64_id, cast_succ]); (first | (with_reducible refine GR.drop ?_ ?_; (simp only [go_sem, and_self, and_true, true_and, implies_true, List.take_succ_cons, List.take_zero])) | refine GR.of ?_); refine ⟨?_, rfl⟩; (try with_reducible rfl)
    rw [hW]
end Go.Proofs.YthogadbnddmkdaaGreat
namespace Go.Proofs.YthogadbnddmkdaaGreat
open Go.Av
abbrev f_impl_LeastImage : Nat := 26
def c_impl_LeastImage : SC :=
 .seq (.reg [
     ⟨(some 2), .box 44 (.tmp 0), none⟩,
     ⟨(some 4), .mv (.const (.slice none 0 0)), none⟩,
     ⟨(some 5), .mv (.const (.int .i64 0)), none⟩] [1, 2])
 (.seq (.seq (.reg [
     ⟨(some 7), .load 2 true (.tmp 2), none⟩,
     ⟨(some 8), .mv (.tmp 1), none⟩,
     ⟨(some 9), .call 66 [(.tmp 7), (.tmp 8)], none⟩,
     ⟨(some 6), .mv (.tmp 9), none⟩] [1, 2, 6])
 (.seq (.reg [
     ⟨(some 10), .mv (.tmp 6), none⟩,
     ⟨(some 11), .bin .neq (.tmp 10) (.const (.int .i64 0)), none⟩] [1, 2, 6, 11])
 (.cond (.tmp 11)
  (.seq (.reg [
      ⟨(some 12), .mv (.tmp 6), none⟩,
      ⟨(some 4), .mv (.const (.slice none 0 0)), none⟩,
      ⟨(some 5), .mv (.tmp 12), none⟩] [4, 5])
  (.ret))
  (.skip))))
 (.seq (.reg [
     ⟨(some 13), .load 2 true (.tmp 2), none⟩,
     ⟨(some 14), .mv (.tmp 1), none⟩,
     ⟨(some 15), .call 67 [(.tmp 13), (.tmp 14)], none⟩,
     ⟨(some 16), .iaddr 1 (.tmp 15) (.const (.int .i64 0)), none⟩,
     ⟨(some 17), .load 1 false (.tmp 16), none⟩,
     ⟨(some 4), .mv (.tmp 17), none⟩,
     ⟨(some 5), .mv (.const (.int .i64 0)), none⟩] [4, 5])
 (.ret)))
theorem s_impl_LeastImage : stripF Tryz.prog 26 [[1, 2], [1, 2, 6], [1, 2, 6, 11], [4, 5], [4, 5]] = some (c_impl_LeastImage, [.tmp 4, .tmp 5], 18) := by kernel_rfl
abbrev f_impl_OrbitLength : Nat := 27
def c_impl_OrbitLength : SC :=
 .seq (.reg [
     ⟨(some 2), .box 44 (.tmp 0), none⟩,
     ⟨(some 4), .mv (.const (.int .i64 0)), none⟩,
     ⟨(some 5), .mv (.const (.int .i64 0)), none⟩] [1, 2])
 (.seq (.seq (.reg [
     ⟨(some 7), .load 2 true (.tmp 2), none⟩,
     ⟨(some 8), .mv (.tmp 1), none⟩,
     ⟨(some 9), .call 66 [(.tmp 7), (.tmp 8)], none⟩,
     ⟨(some 6), .mv (.tmp 9), none⟩] [1, 2, 6])
 (.seq (.reg [
     ⟨(some 10), .mv (.tmp 6), none⟩,
     ⟨(some 11), .bin .neq (.tmp 10) (.const (.int .i64 0)), none⟩] [1, 2, 6, 11])
 (.cond (.tmp 11)
  (.seq (.reg [
      ⟨(some 12), .mv (.tmp 6), none⟩,
      ⟨(some 4), .mv (.const (.int .i64 0)), none⟩,
      ⟨(some 5), .mv (.tmp 12), none⟩] [4, 5])
  (.ret))
  (.skip))))
 (.seq (.reg [
     ⟨(some 13), .load 2 true (.tmp 2), none⟩,
     ⟨(some 14), .mv (.tmp 1), none⟩,
     ⟨(some 15), .call 67 [(.tmp 13), (.tmp 14)], none⟩,
     ⟨(some 16), .call 64 [(.tmp 15)], none⟩,
     ⟨(some 4), .mv (.tmp 16), none⟩,
     ⟨(some 5), .mv (.const (.int .i64 0)), none⟩] [4, 5])
 (.ret)))
theorem s_impl_OrbitLength : stripF Tryz.prog 27 [[1, 2], [1, 2, 6], [1, 2, 6, 11], [4, 5], [4, 5]] = some (c_impl_OrbitLength, [.tmp 4, .tmp 5], 17) := by kernel_rfl
abbrev f_impl_pointSet : Nat := 66
def c_impl_pointSet : SC :=
 .seq (.reg [
     ⟨(some 2), .box 44 (.tmp 0), none⟩,
     ⟨(some 4), .mv (.const (.int .i64 0)), none⟩] [1, 2])
 (.seq (.block 0 (.seq (.reg [
      ⟨(some 6), .load 2 true (.tmp 2), none⟩,
      ⟨(some 7), .call 62 [(.tmp 6)], none⟩,
      ⟨(some 8), .un .not (.tmp 7), none⟩,
      ⟨(some 5), .mv (.tmp 8), none⟩] [1, 2, 5])
  (.cond (.tmp 5)
   (.seq (.reg [
       ⟨(some 4), .mv (.const (.int .i64 1)), none⟩] [4])
   (.ret))
   (.seq (.reg [
       ⟨(some 10), .mv (.tmp 1), none⟩,
       ⟨(some 11), .faddr 0 (.tmp 2), none⟩,
       ⟨(some 12), .load 1 false (.tmp 11), none⟩,
       ⟨(some 13), .call 68 [(.tmp 10), (.tmp 12)], none⟩,
       ⟨(some 14), .un .not (.tmp 13), none⟩,
       ⟨(some 9), .mv (.tmp 14), none⟩] [9])
   (.cond (.tmp 9)
    (.seq (.reg [
        ⟨(some 4), .mv (.const (.int .i64 2)), none⟩] [4])
    (.ret))
    (.skip))))))
 (.seq (.reg [
     ⟨(some 4), .mv (.const (.int .i64 0)), none⟩] [4])
 (.ret)))
theorem s_impl_pointSet : stripF Tryz.prog 66 [[1, 2], [1, 2, 5], [4], [9], [4], [4]] = some (c_impl_pointSet, [.tmp 4], 15) := by kernel_rfl
abbrev f_impl_imagesOf : Nat := 67
def c_impl_imagesOf : SC :=
 .seq (.reg [
     ⟨(some 2), .box 44 (.tmp 0), none⟩,
     ⟨(some 4), .mv (.const (.slice none 0 0)), none⟩] [1, 2])
 (.seq (.reg [
     ⟨(some 5), .mv (.const (.slice none 0 0)), none⟩] [1, 2, 5])
 (.seq (.seq (.reg [
     ⟨(some 8), .faddr 1 (.tmp 2), none⟩,
     ⟨(some 9), .load 1 false (.tmp 8), none⟩,
     ⟨(some 10), .len (.tmp 9), none⟩,
     ⟨(some 11), .mv (.const (.int .i64 0)), none⟩] [1, 5, 9, 10, 11])
 (.block 0 (.loop [1, 5, 9, 10, 11]
   (.seq (.reg [
       ⟨(some 12), .bin .lss (.tmp 11) (.tmp 10), none⟩] [1, 5, 9, 10, 11, 12])
   (.seq (.cond (.tmp 12)
    (.skip)
    (.exit 0))
   (.seq (.block 1 (.seq (.reg [
        ⟨(some 13), .iaddr 1 (.tmp 9) (.tmp 11), none⟩,
        ⟨(some 14), .load 1 false (.tmp 13), none⟩,
        ⟨(some 7), .mv (.tmp 14), none⟩] [1, 5, 7, 9, 10, 11])
    (.reg [
        ⟨(some 15), .mv (.tmp 5), none⟩,
        ⟨(some 16), .mv (.tmp 7), none⟩,
        ⟨(some 17), .mv (.tmp 1), none⟩,
        ⟨(some 18), .call 72 [(.tmp 16), (.tmp 17)], none⟩,
        ⟨(some 19), .bslice 50 1 1 [(.slice none 0 0)] [(0, (.tmp 18))], none⟩,
        ⟨(some 20), .app 50 1 24 (.tmp 15) (.tmp 19), none⟩,
        ⟨(some 5), .mv (.tmp 20), none⟩] [1, 5, 9, 10, 11])))
   (.reg [
       ⟨(some 21), .bin .add (.tmp 11) (.const (.int .i64 1)), none⟩,
       ⟨(some 11), .mv (.tmp 21), none⟩] [1, 5, 9, 10, 11])))))))
 (.seq (.reg [
     ⟨(some 22), .mv (.tmp 5), none⟩,
     ⟨(some 23), .call 79 [(.tmp 22), (.func 65)], none⟩] [5])
 (.seq (.reg [
     ⟨(some 24), .mv (.tmp 5), none⟩,
     ⟨(some 25), .call 116 [(.tmp 24), (.func 71)], none⟩,
     ⟨(some 4), .mv (.tmp 25), none⟩] [4])
 (.ret)))))
theorem s_impl_imagesOf : stripF Tryz.prog 67 [[1, 2], [1, 2, 5], [1, 5, 9, 10, 11], [1, 5, 9, 10, 11], [1, 5, 9, 10, 11, 12], [1, 5, 7, 9, 10, 11], [1, 5, 9, 10, 11], [1, 5, 9, 10, 11], [5], [4]] = some (c_impl_imagesOf, [.tmp 4], 26) := by kernel_rfl
abbrev f_slices_CompactFunc_LLint64_Lint64 : Nat := 116
def c_slices_CompactFunc_LLint64_Lint64 : SC :=
 .seq (.reg [
     ⟨(some 4), .mv (.const (.slice none 0 0)), none⟩] [0, 1])
 (.seq (.seq (.reg [
     ⟨(some 8), .mv (.tmp 0), none⟩,
     ⟨(some 9), .len (.tmp 8), none⟩,
     ⟨(some 10), .bin .lss (.tmp 9) (.const (.int .i64 2)), none⟩] [0, 1, 10])
 (.cond (.tmp 10)
  (.seq (.reg [
      ⟨(some 11), .mv (.tmp 0), none⟩,
      ⟨(some 4), .mv (.tmp 11), none⟩] [4])
  (.ret))
  (.skip)))
 (.seq (.seq (.reg [
     ⟨(some 5), .mv (.const (.int .i64 1)), none⟩] [0, 1, 5])
 (.block 0 (.loop [0, 1, 5]
   (.seq (.seq (.reg [
       ⟨(some 12), .mv (.tmp 5), none⟩,
       ⟨(some 13), .mv (.tmp 0), none⟩,
       ⟨(some 14), .len (.tmp 13), none⟩,
       ⟨(some 15), .bin .lss (.tmp 12) (.tmp 14), none⟩] [0, 1, 5, 15])
   (.cond (.tmp 15)
    (.skip)
    (.exit 0)))
   (.seq (.block 1 (.seq (.reg [
        ⟨(some 18), .mv (.tmp 1), none⟩,
        ⟨(some 19), .mv (.tmp 0), none⟩,
        ⟨(some 20), .mv (.tmp 5), none⟩,
        ⟨(some 21), .iaddr 1 (.tmp 19) (.tmp 20), none⟩,
        ⟨(some 22), .load 1 false (.tmp 21), none⟩,
        ⟨(some 23), .mv (.tmp 0), none⟩,
        ⟨(some 24), .mv (.tmp 5), none⟩,
        ⟨(some 25), .bin .sub (.tmp 24) (.const (.int .i64 1)), none⟩,
        ⟨(some 26), .iaddr 1 (.tmp 23) (.tmp 25), none⟩,
        ⟨(some 27), .load 1 false (.tmp 26), none⟩,
        ⟨(some 28), .qcallv (.tmp 18) [(.tmp 22), (.tmp 27)], none⟩] [0, 1, 5, 28])
    (.cond (.tmp 28)
     (.seq (.reg [
         ⟨(some 29), .mv (.tmp 0), none⟩,
         ⟨(some 30), .mv (.tmp 5), none⟩,
         ⟨(some 31), .slc 1 (.tmp 29) (some (.tmp 30)) none, none⟩,
         ⟨(some 6), .mv (.tmp 31), none⟩] [0, 1, 5, 6])
     (.seq (.seq (.reg [
         ⟨(some 7), .mv (.const (.int .i64 1)), none⟩] [0, 1, 5, 6, 7])
     (.block 2 (.loop [0, 1, 5, 6, 7]
       (.seq (.seq (.reg [
           ⟨(some 32), .mv (.tmp 7), none⟩,
           ⟨(some 33), .mv (.tmp 6), none⟩,
           ⟨(some 34), .len (.tmp 33), none⟩,
           ⟨(some 35), .bin .lss (.tmp 32) (.tmp 34), none⟩] [0, 1, 5, 6, 7, 35])
       (.cond (.tmp 35)
        (.skip)
        (.exit 2)))
       (.seq (.block 3 (.seq (.reg [
            ⟨(some 38), .mv (.tmp 1), none⟩,
            ⟨(some 39), .mv (.tmp 6), none⟩,
            ⟨(some 40), .mv (.tmp 7), none⟩,
            ⟨(some 41), .iaddr 1 (.tmp 39) (.tmp 40), none⟩,
            ⟨(some 42), .load 1 false (.tmp 41), none⟩,
            ⟨(some 43), .mv (.tmp 6), none⟩,
            ⟨(some 44), .mv (.tmp 7), none⟩,
            ⟨(some 45), .bin .sub (.tmp 44) (.const (.int .i64 1)), none⟩,
            ⟨(some 46), .iaddr 1 (.tmp 43) (.tmp 45), none⟩,
            ⟨(some 47), .load 1 false (.tmp 46), none⟩,
            ⟨(some 48), .qcallv (.tmp 38) [(.tmp 42), (.tmp 47)], none⟩,
            ⟨(some 49), .un .not (.tmp 48), none⟩] [0, 1, 5, 6, 7, 49])
        (.cond (.tmp 49)
         (.seq (.reg [
             ⟨(some 50), .mv (.tmp 0), none⟩,
             ⟨(some 51), .mv (.tmp 5), none⟩,
             ⟨(some 52), .mv (.tmp 6), none⟩,
             ⟨(some 53), .mv (.tmp 7), none⟩,
             ⟨(some 54), .iaddr 1 (.tmp 52) (.tmp 53), none⟩,
             ⟨(some 55), .load 1 false (.tmp 54), none⟩,
             ⟨(some 56), .iaddr 1 (.tmp 50) (.tmp 51), none⟩,
             ⟨none, .store 1 (.tmp 56) (.tmp 55), none⟩] [0, 1, 5, 6, 7])
         (.reg [
             ⟨(some 57), .mv (.tmp 5), none⟩,
             ⟨(some 58), .bin .add (.tmp 57) (.const (.int .i64 1)), none⟩,
             ⟨(some 5), .mv (.tmp 58), none⟩] [0, 1, 5, 6, 7]))
         (.skip))))
       (.reg [
           ⟨(some 36), .mv (.tmp 7), none⟩,
           ⟨(some 37), .bin .add (.tmp 36) (.const (.int .i64 1)), none⟩,
           ⟨(some 7), .mv (.tmp 37), none⟩] [0, 1, 5, 6, 7]))))))
     (.seq (.reg [
         ⟨(some 59), .mv (.tmp 0), none⟩,
         ⟨(some 60), .mv (.tmp 5), none⟩,
         ⟨(some 61), .slc 1 (.tmp 59) (some (.tmp 60)) none, none⟩,
         ⟨none, .clr (.slice none 0 0) (.tmp 61), none⟩] [0, 5])
     (.seq (.reg [
         ⟨(some 62), .mv (.tmp 0), none⟩,
         ⟨(some 63), .mv (.tmp 5), none⟩,
         ⟨(some 64), .slc 1 (.tmp 62) none (some (.tmp 63)), none⟩,
         ⟨(some 4), .mv (.tmp 64), none⟩] [4])
     (.ret)))))
     (.skip))))
   (.reg [
       ⟨(some 16), .mv (.tmp 5), none⟩,
       ⟨(some 17), .bin .add (.tmp 16) (.const (.int .i64 1)), none⟩,
       ⟨(some 5), .mv (.tmp 17), none⟩] [0, 1, 5]))))))
 (.seq (.reg [
     ⟨(some 65), .mv (.tmp 0), none⟩,
     ⟨(some 4), .mv (.tmp 65), none⟩] [4])
 (.ret))))
theorem s_slices_CompactFunc_LLint64_Lint64 : stripF Tryz.prog 116 [[0, 1], [0, 1, 10], [4], [0, 1, 5], [0, 1, 5], [0, 1, 5, 15], [0, 1, 5, 28], [0, 1, 5, 6], [0, 1, 5, 6, 7], [0, 1, 5, 6, 7], [0, 1, 5, 6, 7, 35], [0, 1, 5, 6, 7, 49], [0, 1, 5, 6, 7], [0, 1, 5, 6, 7], [0, 1, 5, 6, 7], [0, 5], [4], [0, 1, 5], [4]] = some (c_slices_CompactFunc_LLint64_Lint64, [.tmp 4], 66) := by kernel_rfl
def ddT (xs : List (List Int)) (m : Nat) : List (List Int) := ((List.range m).filter fun j => decide (j = 0) || !decide (xs.getD j [] = xs.getD (j - 1) [])).map fun j => xs.getD j []
theorem ddT_succ (xs : List (List Int)) (m : Nat) : ddT xs (m + 1) = ddT xs m ++ (if m = 0 ∨ xs.getD m [] ≠ xs.getD (m - 1) [] then [xs.getD m []] else []) := by
  unfold ddT
  rw [List.range_succ, List.filter_append, List.map_append]
  congr 1
  by_cases h : m = 0 ∨ xs.getD m [] ≠ xs.getD (m - 1) []
  · rw [if_pos h, List.filter_cons_of_pos (by
      rcases h with h | h
      · rw [decide_eq_true h]; rfl
      · rw [decide_eq_false h, Bool.not_false, Bool.or_true])]; rfl
  · rw [if_neg h, List.filter_cons_of_neg (by
      simp only [not_or, ne_eq, Decidable.not_not] at h
      rw [decide_eq_false h.1, decide_eq_true h.2]; simp)]; rfl
theorem ddT_mem {xs : List (List Int)} {m : Nat} {y : List Int} : y ∈ ddT xs m ↔ ∃ j, j < m ∧ xs.getD j [] = y := by
  induction m with
  | zero => simp [ddT]
  | succ m ih =>
    rw [ddT_succ, List.mem_append, ih]
    constructor
    · rintro (⟨j, h1, h2⟩ | h)
      · exact ⟨j, by omega, h2⟩
      · split at h
        · exact ⟨m, by omega, (List.mem_singleton.1 h).symm⟩
        · simp at h
    · rintro ⟨j, h1, h2⟩
      rcases Nat.lt_or_eq_of_le (Nat.le_of_lt_succ h1) with h | rfl
      · exact .inl ⟨j, h, h2⟩
      · by_cases hc : j = 0 ∨ xs.getD j [] ≠ xs.getD (j - 1) []
        · rw [if_pos hc]; exact .inr (by rw [h2]; simp)
        · simp only [not_or, ne_eq, Decidable.not_not] at hc
          exact .inl ⟨j - 1, by omega, by rw [← hc.2, h2]⟩
theorem ddT_is {xs : List (List Int)} (hs : xs.Pairwise fun a b => ¬ cmpL b a < 0) : ddT xs xs.length = sortU cmpL xs := by
  have hle : ∀ i j, i ≤ j → j < xs.length → cmpL (xs.getD i []) (xs.getD j []) ≤ 0 := by
    intro i j hij hj
    have e : ∀ k, k < xs.length → xs.getD k [] = xs.getD k [] := fun _ _ => rfl
    rcases Nat.lt_or_eq_of_le hij with h | rfl
    · have := List.pairwise_iff_getElem.1 hs i j (by omega) hj h
      rw [List.getD_eq_getElem?_getD, List.getD_eq_getElem?_getD, List.getElem?_eq_getElem hj, List.getElem?_eq_getElem (show i < xs.length by omega)]
      simp only [Option.getD_some]
      have h2 := cmpL_tot.neg xs[i] xs[j]
      omega
    · rw [(cmpL_eq0 _ _).2 rfl]; omega
  refine asc_uniq cmpL_tot ?_ (sortU_asc cmpL_tot _) (fun y => ?_)
  · unfold Asc ddT
    rw [List.pairwise_map]
    refine (List.pairwise_lt_range.filter _).imp_of_mem ?_
    intro i j hi hj hij
    have hj1 := (List.mem_filter.1 hj)
    have hjl := List.mem_range.1 hj1.1
    have hj0 := hj1.2
    simp only [Bool.or_eq_true, decide_eq_true_eq, Bool.not_eq_true', decide_eq_false_iff_not] at hj0
    have h1 := hle i (j - 1) (by omega) (by omega)
    have h2 := hle (j - 1) j (by omega) hjl
    have h3 : cmpL (xs.getD (j - 1) []) (xs.getD j []) ≠ 0 := fun h => by
      rcases hj0 with h4 | h4
      · omega
      · exact h4 ((cmpL_eq0 _ _).1 h).symm
    by_cases h4 : cmpL (xs.getD i []) (xs.getD (j - 1) []) = 0
    · rw [(cmpL_eq0 _ _).1 h4]; omega
    · exact cmpL_trans _ (xs.getD (j - 1) []) _ (by omega) (by omega)
  · rw [sortU_mem cmpL_tot, ddT_mem]
    constructor
    · rintro ⟨j, hj, rfl⟩
      rw [List.getD_eq_getElem?_getD, List.getElem?_eq_getElem hj]; exact List.getElem_mem _
    · intro hy
      obtain ⟨j, hj, rfl⟩ := List.getElem_of_mem hy
      exact ⟨j, hj, by rw [List.getD_eq_getElem?_getD, List.getElem?_eq_getElem hj]; rfl⟩
theorem equal_call : callable Tryz.prog f_slices_Equal_Lint64_int64 = true := by kernel_rfl
theorem setMany_rep (c : AV) : ∀ (n : Nat) (cells : List AV) (off : Nat), off + n ≤ cells.length → (setMany cells off (List.replicate n c)).take off = cells.take off
  | 0, cells, off, _ => rfl
  | n + 1, cells, off, h => by
    rw [List.replicate_succ, setMany_cons]
    have h1 := setMany_rep c n (cells.set off c) (off + 1) (by simp; omega)
    have h2 := congrArg (fun l : List AV => l.take off) h1
    simp only [List.take_take, Nat.min_eq_left (Nat.le_succ off)] at h2
    rw [h2]
    rw [List.take_set_of_le (by omega)]
def keepI (xs : List (List Int)) (m : Nat) : List Nat := (List.range m).filter fun j => decide (j = 0) || !decide (xs.getD j [] = xs.getD (j - 1) [])
theorem keepI_map (xs : List (List Int)) (m : Nat) : (keepI xs m).map (fun j => xs.getD j []) = ddT xs m := rfl
theorem keepI_succ (xs : List (List Int)) (m : Nat) : keepI xs (m + 1) = keepI xs m ++ (if m = 0 ∨ xs.getD m [] ≠ xs.getD (m - 1) [] then [m] else []) := by
  unfold keepI
  rw [List.range_succ, List.filter_append]
  congr 1
  by_cases h : m = 0 ∨ xs.getD m [] ≠ xs.getD (m - 1) []
  · rw [if_pos h, List.filter_cons_of_pos (by
      rcases h with h | h
      · rw [decide_eq_true h]; rfl
      · rw [decide_eq_false h, Bool.not_false, Bool.or_true])]; rfl
  · rw [if_neg h, List.filter_cons_of_neg (by
      simp only [not_or, ne_eq, Decidable.not_not] at h
      rw [decide_eq_false h.1, decide_eq_true h.2]; simp)]; rfl
theorem range_getD (cs : List AV) (d : AV) : ∀ k, k ≤ cs.length → (List.range k).map (fun j => cs.getD j d) = cs.take k
  | 0, _ => by simp
  | k + 1, h => by
    rw [List.range_succ, List.map_append, range_getD cs d k (by omega), List.take_add_one, List.getElem?_eq_getElem (by omega), List.map_cons, List.map_nil, List.getD_eq_getElem?_getD, List.getElem?_eq_getElem (by omega)]; rfl
theorem slcNm {H : List Blk} {K : AV → Prop} {i ver n : Nat} {cells : List AV} {z y : Int} (hz : 0 < z) (hzy : z < y) (hy : y ≤ n) (hs : (H[i]?).map Blk.sz = some 1) : SlcG 1 (.nm i ver 0 n) z y H K (some (n, cells)) = K (.nm i ver z.toNat (y.toNat - z.toNat)) := by
  simp only [SlcG]
  rw [if_neg (by omega), if_neg (by omega)]
  refine propext ⟨fun h => by simpa using h.2.2.2.2, fun h => ⟨by omega, by omega, hy, ?_, by simpa using h⟩⟩
  intro i' ver' off' len' he
  cases he; exact hs
theorem slcNm0 {H : List Blk} {K : AV → Prop} {i ver n : Nat} {cells : List AV} {y : Int} (h0 : 0 ≤ y) (hy : y ≤ n) (hs : (H[i]?).map Blk.sz = some 1) : SlcG 1 (.nm i ver 0 n) 0 y H K (some (n, cells)) = K (.nm i ver 0 y.toNat) := by
  simp only [SlcG, if_true]
  refine propext ⟨fun h => h.2.2.2.2, fun h => ⟨by omega, by omega, hy, ?_, h⟩⟩
  intro i' ver' off' len' he
  cases he; exact hs
theorem compact_ok (H : List Blk) (i ver ty : Nat) (xs : List (List Int)) (cs : List AV) (hi : H[i]? = some ⟨ver, ty, 1, cs⟩) (hcl : cs.length = xs.length) (h1 : ∀ c ∈ cs, c.cell1 = true ∧ partsOf c = [c])
    (hrd : ∀ cells' j, j < xs.length → RdS (H.set i ⟨ver, ty, 1, cells'⟩) (cs.getD j nilS) (xs.getD j [])) (hl : xs.length ≤ 2000000) :
    ACalls Tryz.prog f_slices_CompactFunc_LLint64_Lint64 [.nm i ver 0 xs.length, .fn f_slices_Equal_Lint64_int64 []] H (fun r H' => ∃ cells, r = .nm i ver 0 (keepI xs xs.length).length ∧ H' = H.set i ⟨ver, ty, 1, cells⟩ ∧ cells.take (keepI xs xs.length).length = (keepI xs xs.length).map (fun j => cs.getD j nilS) ∧ (keepI xs xs.length).length ≤ cells.length) := by
  have hilt := (List.getElem?_eq_some_iff.1 hi).1
  have hself : H.set i ⟨ver, ty, 1, cs⟩ = H := by
    obtain ⟨g1, g2⟩ := List.getElem?_eq_some_iff.1 hi
    rw [← g2]; exact List.set_getElem_self g1
  have hv : aview H (.nm i ver 0 xs.length) = some (xs.length, cs) := by rw [← hcl]; exact view_nm hi rfl
  have hgc : ∀ j, j < xs.length → cs[j]? = some (cs.getD j nilS) := fun j hj => by
    rw [List.getD_eq_getElem?_getD, List.getElem?_eq_getElem (by omega)]; rfl
  have hrd0 : ∀ j, j < xs.length → RdS H (cs.getD j nilS) (xs.getD j []) := fun j hj => by have := hrd cs j hj; rwa [hself] at this
  have fin : ∀ k, k = xs.length → keepI xs k = List.range k → GR H (fun r H' => ∃ cells, r = .nm i ver 0 (keepI xs xs.length).length ∧ H' = H.set i ⟨ver, ty, 1, cells⟩ ∧ cells.take (keepI xs xs.length).length = (keepI xs xs.length).map (fun j => cs.getD j nilS) ∧ (keepI xs xs.length).length ≤ cells.length) (.nm i ver 0 xs.length) H := by
    rintro k rfl hk
    rw [hk]
    refine GR.of ⟨cs, by simp, hself.symm, ?_, by simp; omega⟩
    rw [range_getD cs nilS _ (by omega), List.length_range]
  refine ACalls.introB s_slices_CompactFunc_LLint64_Lint64 (by simp) ?_; intro hB hA; unfold c_slices_CompactFunc_LLint64_Lint64; simp (config := { maxSteps := 1000000 }) (disch := (first | omega | (simp only [go_sem]; try omega))) only [go_sem, Nat.reduceAdd, Nat.reduceEqDiff, Nat.reduceLeDiff, Nat.reduceMul, Nat.reduceLT, reduceIte, Int.reduceToNat, w64_id, cast_succ]
  by_cases h2 : xs.length < 2
  · have d2 : decide ((xs.length : Int) < 2) = true := decide_eq_true (by omega)
    have hdd : keepI xs xs.length = List.range xs.length := by
      match xs, h2 with
      | [], _ => rfl
      | [x], _ => rfl
    repeat (first | (with_reducible first | refine SW.seq ?_ | refine SW.block ?_ | refine SW.rowC ?_ | refine SW.skip ?_ | refine SW.exit ?_ | intro _ | refine And.intro (by omega) ?_) | simp (config := { maxSteps := 1000000 }) (disch := (first | omega | (simp only [go_sem]; try omega))) only [go_sem, Nat.reduceAdd, Nat.reduceEqDiff, Nat.reduceLeDiff, Nat.reduceMul, Nat.reduceLT, reduceIte, Int.reduceToNat, w64_id, cast_succ, hv, d2])
    refine SW.condT rfl ?_
    repeat (first | (with_reducible first | refine SW.seq ?_ | refine SW.block ?_ | refine SW.rowC ?_ | refine SW.skip ?_ | refine SW.exit ?_ | intro _ | refine And.intro (by omega) ?_) | simp (config := { maxSteps := 1000000 }) (disch := (first | omega | (simp only [go_sem]; try omega))) only [go_sem, Nat.reduceAdd, Nat.reduceEqDiff, Nat.reduceLeDiff, Nat.reduceMul, Nat.reduceLT, reduceIte, Int.reduceToNat, w64_id, cast_succ])
    refine SW.ret ?_; (try simp only [go_sem]); (first | refine FunPost.one ?_ | refine FunPost.two ?_ | refine FunPost.three ?_); (try simp (config := { maxSteps := 1000000 }) (disch := (first | omega | (simp only [go_sem]; try omega))) only [go_sem, Nat.reduceAdd, Nat.reduceEqDiff, Nat.reduceLeDiff, Nat.reduceMul, Nat.reduceLT, reduceIte, Int.reduceToNat, w64_id, cast_succ])
    exact fin _ rfl hdd
  have d2 : decide ((xs.length : Int) < 2) = false := decide_eq_false (by omega)
  repeat (first | (with_reducible first | refine SW.seq ?_ | refine SW.block ?_ | refine SW.rowC ?_ | refine SW.skip ?_ | refine SW.exit ?_ | intro _ | refine And.intro (by omega) ?_) | simp (config := { maxSteps := 1000000 }) (disch := (first | omega | (simp only [go_sem]; try omega))) only [go_sem, Nat.reduceAdd, Nat.reduceEqDiff, Nat.reduceLeDiff, Nat.reduceMul, Nat.reduceLT, reduceIte, Int.reduceToNat, w64_id, cast_succ, hv, d2])
  refine SW.condF rfl ?_
  repeat (first | (with_reducible first | refine SW.seq ?_ | refine SW.block ?_ | refine SW.rowC ?_ | refine SW.skip ?_ | refine SW.exit ?_ | intro _ | refine And.intro (by omega) ?_) | simp (config := { maxSteps := 1000000 }) (disch := (first | omega | (simp only [go_sem]; try omega))) only [go_sem, Nat.reduceAdd, Nat.reduceEqDiff, Nat.reduceLeDiff, Nat.reduceMul, Nat.reduceLT, reduceIte, Int.reduceToNat, w64_id, cast_succ])
  refine SW.loopE (fun E0 H0 q E' H' => ∃ k : Nat, 1 ≤ k ∧ k ≤ xs.length ∧ q = xs.length - k ∧ E' = aput E0 5 (I k) ∧ H' = H0 ∧ keepI xs k = List.range k) (xs.length - 1) ⟨1, by omega, by omega, rfl, rfl, rfl, rfl⟩ ?_
  rintro q E' H' ⟨k, hk1, hkl, rfl, rfl, rfl, hdk⟩
  simp (config := { maxSteps := 1000000 }) (disch := (first | omega | (simp only [go_sem]; try omega))) only [go_sem, Nat.reduceAdd, Nat.reduceEqDiff, Nat.reduceLeDiff, Nat.reduceMul, Nat.reduceLT, reduceIte, Int.reduceToNat, w64_id, cast_succ]
  repeat (first | (with_reducible first | refine SW.seq ?_ | refine SW.block ?_ | refine SW.rowC ?_ | refine SW.skip ?_ | refine SW.exit ?_ | intro _ | refine And.intro (by omega) ?_) | simp (config := { maxSteps := 1000000 }) (disch := (first | omega | (simp only [go_sem]; try omega))) only [go_sem, Nat.reduceAdd, Nat.reduceEqDiff, Nat.reduceLeDiff, Nat.reduceMul, Nat.reduceLT, reduceIte, Int.reduceToNat, w64_id, cast_succ, hv])
  (first | refine SW.condD rfl (fun h3 => ?_) (fun h3 => ?_) | refine SW.condN rfl (fun h3 => ?_) (fun h3 => ?_) | refine SW.condNB rfl (fun h3 => ?_) (fun h3 => ?_) | refine SW.condB rfl (fun h3 => ?_) (fun h3 => ?_))
  · have hklt : k < xs.length := by omega
    have e1 : (k : Int) - 1 = ((k - 1 : Nat) : Int) := by omega
    have hc1 := hgc k hklt
    have hc2 := hgc (k - 1) (by omega)
    have hq : AFn Tryz.prog f_slices_Equal_Lint64_int64 [cs.getD k nilS, cs.getD (k - 1) nilS] H' (Bv (decide (xs.getD k [] = xs.getD (k - 1) []))) := fun ext => slicesEqual_ok _ _ _ _ _ ((hrd0 k hklt).append ext) ((hrd0 (k - 1) (by omega)).append ext)
    repeat (first | (with_reducible first | refine SW.seq ?_ | refine SW.block ?_ | refine SW.rowC ?_ | refine SW.skip ?_ | refine SW.exit ?_ | intro _ | refine And.intro (by omega) ?_) | simp (config := { maxSteps := 1000000 }) (disch := (first | omega | (simp only [go_sem]; try omega))) only [go_sem, Nat.reduceAdd, Nat.reduceEqDiff, Nat.reduceLeDiff, Nat.reduceMul, Nat.reduceLT, reduceIte, Int.reduceToNat, w64_id, cast_succ, hv, e1, hc1, hc2, equal_call])
    refine QcallW.of hq ?_
    by_cases heq : xs.getD k [] = xs.getD (k - 1) []
    · rw [decide_eq_true heq]
      repeat (first | (with_reducible first | refine SW.seq ?_ | refine SW.block ?_ | refine SW.rowC ?_ | refine SW.skip ?_ | refine SW.exit ?_ | intro _ | refine And.intro (by omega) ?_) | simp (config := { maxSteps := 1000000 }) (disch := (first | omega | (simp only [go_sem]; try omega))) only [go_sem, Nat.reduceAdd, Nat.reduceEqDiff, Nat.reduceLeDiff, Nat.reduceMul, Nat.reduceLT, reduceIte, Int.reduceToNat, w64_id, cast_succ])
      refine SW.condT rfl ?_
      have hsz : ∀ cells', ((H'.set i ⟨ver, ty, 1, cells'⟩)[i]?).map Blk.sz = some 1 := fun cells' => by rw [List.getElem?_set_self hilt]; rfl
      have hsz0 : (H'[i]?).map Blk.sz = some 1 := by rw [hi]; rfl
      have hs1 : ∀ K : AV → Prop, SlcG 1 (.nm i ver 0 xs.length) (k : Int) ((xs.length : Nat) : Int) H' K (some (xs.length, cs)) = K (.nm i ver k (xs.length - k)) := fun K => by
        rw [slcNm (by omega) (by omega) (by omega) hsz0]; simp
      repeat (first | (with_reducible first | refine SW.seq ?_ | refine SW.block ?_ | refine SW.rowC ?_ | refine SW.skip ?_ | refine SW.exit ?_ | intro _ | refine And.intro (by omega) ?_) | simp (config := { maxSteps := 1000000 }) (disch := (first | omega | (simp only [go_sem]; try omega))) only [go_sem, Nat.reduceAdd, Nat.reduceEqDiff, Nat.reduceLeDiff, Nat.reduceMul, Nat.reduceLT, reduceIte, Int.reduceToNat, w64_id, cast_succ, hv, Option.map_some, Option.map_none, hs1])
      refine SW.loopE (fun E0 H0 q E' H2 => ∃ (m : Nat) (K : List Nat), 1 ≤ m ∧ m ≤ xs.length - k ∧ q = xs.length - k - m ∧ K = keepI xs (k + m) ∧ k ≤ K.length ∧ K.length < k + m ∧ E' = aput (aput E0 7 (I m)) 5 (I K.length) ∧ H2 = H'.set i ⟨ver, ty, 1, K.map (fun j => cs.getD j nilS) ++ cs.drop K.length⟩) (xs.length - k - 1) ⟨1, List.range k, by omega, by omega, by omega, ?_, by simp, by simp, by simp [go_sem], ?_⟩ ?_
      · rw [keepI_succ, if_neg (by simp only [not_or, ne_eq, Decidable.not_not]; exact ⟨by omega, heq⟩), hdk]; simp
      · rw [range_getD cs nilS k (by omega), List.length_range, List.take_append_drop, hself]
      rintro q E' H2 ⟨m, K, hm1, hml, rfl, hK, hkK, hKl, rfl, rfl⟩
      have hcl3 : (K.map (fun j => cs.getD j nilS) ++ cs.drop K.length).length = xs.length := by simp; omega
      generalize hC : K.map (fun j => cs.getD j nilS) ++ cs.drop K.length = C at *
      have hget : (H'.set i ⟨ver, ty, 1, C⟩)[i]? = some ⟨ver, ty, 1, C⟩ := List.getElem?_set_self hilt
      have hv0 : aview (H'.set i ⟨ver, ty, 1, C⟩) (.nm i ver 0 xs.length) = some (xs.length, C) := by rw [← hcl3]; exact view_nm hget rfl
      have hv2 : aview (H'.set i ⟨ver, ty, 1, C⟩) (.nm i ver k (xs.length - k)) = some (xs.length - k, C.drop k) := by
        simp only [aview, hget, if_true, Nat.mul_one]
        rw [List.take_of_length_le (by simp; omega)]
      have hcg : ∀ j, K.length ≤ j → j < xs.length → C[j]? = some (cs.getD j nilS) := fun j h1 h2 => by
        rw [← hC, List.getElem?_append_right (by simpa using h1), List.getElem?_drop, List.length_map, show K.length + (j - K.length) = j by omega]
        exact hgc j h2
      simp (config := { maxSteps := 1000000 }) (disch := (first | omega | (simp only [go_sem]; try omega))) only [go_sem, Nat.reduceAdd, Nat.reduceEqDiff, Nat.reduceLeDiff, Nat.reduceMul, Nat.reduceLT, reduceIte, Int.reduceToNat, w64_id, cast_succ]
      repeat (first | (with_reducible first | refine SW.seq ?_ | refine SW.block ?_ | refine SW.rowC ?_ | refine SW.skip ?_ | refine SW.exit ?_ | intro _ | refine And.intro (by omega) ?_) | simp (config := { maxSteps := 1000000 }) (disch := (first | omega | (simp only [go_sem]; try omega))) only [go_sem, Nat.reduceAdd, Nat.reduceEqDiff, Nat.reduceLeDiff, Nat.reduceMul, Nat.reduceLT, reduceIte, Int.reduceToNat, w64_id, cast_succ, hv2])
      (first | refine SW.condD rfl (fun h4 => ?_) (fun h4 => ?_) | refine SW.condN rfl (fun h4 => ?_) (fun h4 => ?_) | refine SW.condNB rfl (fun h4 => ?_) (fun h4 => ?_) | refine SW.condB rfl (fun h4 => ?_) (fun h4 => ?_))
      · have hcm : (C.drop k)[m]? = some (cs.getD (k + m) nilS) := by rw [List.getElem?_drop]; exact hcg _ (by omega) (by omega)
        have hcm1 : (C.drop k)[m - 1]? = some (cs.getD (k + m - 1) nilS) := by rw [List.getElem?_drop, show k + (m - 1) = k + m - 1 by omega]; exact hcg _ (by omega) (by omega)
        have e2 : (m : Int) - 1 = ((m - 1 : Nat) : Int) := by omega
        have hq2 : AFn Tryz.prog f_slices_Equal_Lint64_int64 [cs.getD (k + m) nilS, cs.getD (k + m - 1) nilS] (H'.set i ⟨ver, ty, 1, C⟩) (Bv (decide (xs.getD (k + m) [] = xs.getD (k + m - 1) []))) := fun ext => slicesEqual_ok _ _ _ _ _ ((hrd C (k + m) (by omega)).append ext) ((hrd C (k + m - 1) (by omega)).append ext)
        have h1c := h1 (cs.getD (k + m) nilS) (List.mem_of_getElem? (hgc (k + m) (by omega)))
        have hst : ∀ c, astore (H'.set i ⟨ver, ty, 1, C⟩) [c] (.el (.nm i ver 0 xs.length) K.length) = some (H'.set i ⟨ver, ty, 1, C.set K.length c⟩) := fun c => by
          rw [store_nm hget (by rw [hcl3]; omega), List.set_set]
        have hsetC : C.set K.length (cs.getD (k + m) nilS) = (K ++ [k + m]).map (fun j => cs.getD j nilS) ++ cs.drop (K ++ [k + m]).length := by
          rw [← hC, List.set_append_right _ _ (by simp), List.length_map, Nat.sub_self, List.drop_eq_getElem_cons (show K.length < cs.length by omega), List.set_cons_zero]
          simp
        repeat (first | (with_reducible first | refine SW.seq ?_ | refine SW.block ?_ | refine SW.rowC ?_ | refine SW.skip ?_ | refine SW.exit ?_ | intro _ | refine And.intro (by omega) ?_) | simp (config := { maxSteps := 1000000 }) (disch := (first | omega | (simp only [go_sem]; try omega))) only [go_sem, Nat.reduceAdd, Nat.reduceEqDiff, Nat.reduceLeDiff, Nat.reduceMul, Nat.reduceLT, reduceIte, Int.reduceToNat, w64_id, cast_succ, hv2, hv0, e2, hcm, hcm1, equal_call])
        refine QcallW.of hq2 ?_
        by_cases heq2 : xs.getD (k + m) [] = xs.getD (k + m - 1) []
        · rw [decide_eq_true heq2]
          repeat (first | (with_reducible first | refine SW.seq ?_ | refine SW.block ?_ | refine SW.rowC ?_ | refine SW.skip ?_ | refine SW.exit ?_ | intro _ | refine And.intro (by omega) ?_) | simp (config := { maxSteps := 1000000 }) (disch := (first | omega | (simp only [go_sem]; try omega))) only [go_sem, Nat.reduceAdd, Nat.reduceEqDiff, Nat.reduceLeDiff, Nat.reduceMul, Nat.reduceLT, reduceIte, Int.reduceToNat, w64_id, cast_succ])
          refine SW.condF rfl ?_
          repeat (first | (with_reducible first | refine SW.seq ?_ | refine SW.block ?_ | refine SW.rowC ?_ | refine SW.skip ?_ | refine SW.exit ?_ | intro _ | refine And.intro (by omega) ?_) | simp (config := { maxSteps := 1000000 }) (disch := (first | omega | (simp only [go_sem]; try omega))) only [go_sem, Nat.reduceAdd, Nat.reduceEqDiff, Nat.reduceLeDiff, Nat.reduceMul, Nat.reduceLT, reduceIte, Int.reduceToNat, w64_id, cast_succ])
          refine SLoop.next (xs.length - k - (m + 1)) (by omega) ⟨m + 1, K, by omega, by omega, rfl, ?_, hkK, by omega, by simp [go_sem], by rw [hC]⟩
          rw [show k + (m + 1) = (k + m) + 1 by omega, keepI_succ, if_neg (by simp only [not_or, ne_eq, Decidable.not_not]; exact ⟨by omega, heq2⟩), ← hK]; simp
        · rw [decide_eq_false heq2]
          repeat (first | (with_reducible first | refine SW.seq ?_ | refine SW.block ?_ | refine SW.rowC ?_ | refine SW.skip ?_ | refine SW.exit ?_ | intro _ | refine And.intro (by omega) ?_) | simp (config := { maxSteps := 1000000 }) (disch := (first | omega | (simp only [go_sem]; try omega))) only [go_sem, Nat.reduceAdd, Nat.reduceEqDiff, Nat.reduceLeDiff, Nat.reduceMul, Nat.reduceLT, reduceIte, Int.reduceToNat, w64_id, cast_succ])
          refine SW.condT rfl ?_
          repeat (first | (with_reducible first | refine SW.seq ?_ | refine SW.block ?_ | refine SW.rowC ?_ | refine SW.skip ?_ | refine SW.exit ?_ | intro _ | refine And.intro (by omega) ?_) | simp (config := { maxSteps := 1000000 }) (disch := (first | omega | (simp only [go_sem]; try omega))) only [go_sem, Nat.reduceAdd, Nat.reduceEqDiff, Nat.reduceLeDiff, Nat.reduceMul, Nat.reduceLT, reduceIte, Int.reduceToNat, w64_id, cast_succ, hv2, hv0, hcm, hst, h1c.1, h1c.2])
          refine SLoop.next (xs.length - k - (m + 1)) (by omega) ⟨m + 1, K ++ [k + m], by omega, by omega, rfl, ?_, by simp; omega, by simp; omega, by simp [go_sem], by rw [hsetC]⟩
          rw [show k + (m + 1) = (k + m) + 1 by omega, keepI_succ, if_pos (.inr heq2), ← hK]
      · have hmk : k + m = xs.length := by omega
        rw [hmk] at hK hKl
        have hs2 : ∀ Kk : AV → Prop, SlcG 1 (.nm i ver 0 xs.length) (K.length : Int) ((xs.length : Nat) : Int) (H'.set i ⟨ver, ty, 1, C⟩) Kk (some (xs.length, C)) = Kk (.nm i ver K.length (xs.length - K.length)) := fun Kk => by
          rw [slcNm (by omega) (by omega) (by omega) (hsz C)]; simp
        repeat (first | (with_reducible first | refine SW.seq ?_ | refine SW.block ?_ | refine SW.rowC ?_ | refine SW.skip ?_ | refine SW.exit ?_ | intro _ | refine And.intro (by omega) ?_) | simp (config := { maxSteps := 1000000 }) (disch := (first | omega | (simp only [go_sem]; try omega))) only [go_sem, Nat.reduceAdd, Nat.reduceEqDiff, Nat.reduceLeDiff, Nat.reduceMul, Nat.reduceLT, reduceIte, Int.reduceToNat, w64_id, cast_succ, hv0, Option.map_some, Option.map_none, hs2])
        refine ClrW.of _ _ (by omega) hget (by omega) ?_
        rw [List.set_set]
        generalize hD : setMany C K.length (List.replicate (xs.length - K.length) (AV.lit (.slice none 0 0))) = D
        have hDl : D.length = xs.length := by rw [← hD, setMany_length]; exact hcl3
        have hDt : D.take K.length = K.map (fun j => cs.getD j nilS) := by
          rw [← hD, setMany_rep _ _ _ _ (by omega), ← hC, List.take_append_of_le_length (by simp), List.take_of_length_le (by simp)]
        have hgetD : (H'.set i ⟨ver, ty, 1, D⟩)[i]? = some ⟨ver, ty, 1, D⟩ := List.getElem?_set_self hilt
        have hvD : aview (H'.set i ⟨ver, ty, 1, D⟩) (.nm i ver 0 xs.length) = some (xs.length, D) := by rw [← hDl]; exact view_nm hgetD rfl
        have hs3 : ∀ Kk : AV → Prop, SlcG 1 (.nm i ver 0 xs.length) 0 (K.length : Int) (H'.set i ⟨ver, ty, 1, D⟩) Kk (some (xs.length, D)) = Kk (.nm i ver 0 K.length) := fun Kk => by
          rw [slcNm0 (by omega) (by omega) (hsz D)]; simp
        repeat (first | (with_reducible first | refine SW.seq ?_ | refine SW.block ?_ | refine SW.rowC ?_ | refine SW.skip ?_ | refine SW.exit ?_ | intro _ | refine And.intro (by omega) ?_) | simp (config := { maxSteps := 1000000 }) (disch := (first | omega | (simp only [go_sem]; try omega))) only [go_sem, Nat.reduceAdd, Nat.reduceEqDiff, Nat.reduceLeDiff, Nat.reduceMul, Nat.reduceLT, reduceIte, Int.reduceToNat, w64_id, cast_succ, hvD, Option.map_some, Option.map_none, hs3])
        refine SW.ret ?_; (try simp only [go_sem]); (first | refine FunPost.one ?_ | refine FunPost.two ?_ | refine FunPost.three ?_); (try simp (config := { maxSteps := 1000000 }) (disch := (first | omega | (simp only [go_sem]; try omega))) only [go_sem, Nat.reduceAdd, Nat.reduceEqDiff, Nat.reduceLeDiff, Nat.reduceMul, Nat.reduceLT, reduceIte, Int.reduceToNat, w64_id, cast_succ])
        rw [← hK]
        exact GR.of ⟨D, rfl, rfl, hDt, by omega⟩
    · rw [decide_eq_false heq]
      repeat (first | (with_reducible first | refine SW.seq ?_ | refine SW.block ?_ | refine SW.rowC ?_ | refine SW.skip ?_ | refine SW.exit ?_ | intro _ | refine And.intro (by omega) ?_) | simp (config := { maxSteps := 1000000 }) (disch := (first | omega | (simp only [go_sem]; try omega))) only [go_sem, Nat.reduceAdd, Nat.reduceEqDiff, Nat.reduceLeDiff, Nat.reduceMul, Nat.reduceLT, reduceIte, Int.reduceToNat, w64_id, cast_succ])
      refine SW.condF rfl ?_
      repeat (first | (with_reducible first | refine SW.seq ?_ | refine SW.block ?_ | refine SW.rowC ?_ | refine SW.skip ?_ | refine SW.exit ?_ | intro _ | refine And.intro (by omega) ?_) | simp (config := { maxSteps := 1000000 }) (disch := (first | omega | (simp only [go_sem]; try omega))) only [go_sem, Nat.reduceAdd, Nat.reduceEqDiff, Nat.reduceLeDiff, Nat.reduceMul, Nat.reduceLT, reduceIte, Int.reduceToNat, w64_id, cast_succ])
      refine SLoop.next (xs.length - (k + 1)) (by omega) ⟨k + 1, by omega, by omega, rfl, by simp [go_sem], rfl, ?_⟩
      rw [keepI_succ, if_pos (.inr heq), hdk, List.range_succ]
  · have : k = xs.length := by omega
    subst this
    repeat (first | (with_reducible first | refine SW.seq ?_ | refine SW.block ?_ | refine SW.rowC ?_ | refine SW.skip ?_ | refine SW.exit ?_ | intro _ | refine And.intro (by omega) ?_) | simp (config := { maxSteps := 1000000 }) (disch := (first | omega | (simp only [go_sem]; try omega))) only [go_sem, Nat.reduceAdd, Nat.reduceEqDiff, Nat.reduceLeDiff, Nat.reduceMul, Nat.reduceLT, reduceIte, Int.reduceToNat, w64_id, cast_succ])
    refine SW.ret ?_; (try simp only [go_sem]); (first | refine FunPost.one ?_ | refine FunPost.two ?_ | refine FunPost.three ?_); (try simp (config := { maxSteps := 1000000 }) (disch := (first | omega | (simp only [go_sem]; try omega))) only [go_sem, Nat.reduceAdd, Nat.reduceEqDiff, Nat.reduceLeDiff, Nat.reduceMul, Nat.reduceLT, reduceIte, Int.reduceToNat, w64_id, cast_succ])
    exact fin _ rfl hdk
end Go.Proofs.YthogadbnddmkdaaGreat
namespace Go.Av
theorem Sim.trunc {B : Nat} {W0 : World} {F : Fz} {m : List Ent} {H : List Blk} {w : World} (h : Sim B W0 F m H w) {i ver ty : Nat} {cells : List AV} (hk : H[i]? = some ⟨ver, ty, 1, cells⟩) (n : Nat) : Sim B W0 F m (H.set i ⟨ver, ty, 1, cells.take n⟩) w := by
  refine ⟨by simp [h.len], h.below, h.base, h.fz, h.apart, h.dist, fun j e k he hkk => ?_⟩
  have hlt := (List.getElem?_eq_some_iff.1 hk).1
  by_cases hij : i = j
  · subst hij
    rw [List.getElem?_set_self hlt] at hkk
    cases hkk
    obtain ⟨g1, g2, g3, g4, g5⟩ := h.blk i e _ he hk
    refine ⟨g1, g2, g3, fun hn => ⟨?_, (g4 hn).2⟩, fun b hb => ?_⟩
    · have := (g4 hn).1
      simp only at this
      simp [this]
    · obtain ⟨o1, ⟨o0, arr, o2, o3, o4, o5, o6⟩ | ⟨o0, _⟩⟩ := g5 b hb
      · refine ⟨o1, .inl ⟨o0, arr, o2, o3, ?_, fun q c v hc hv => ?_, o6⟩⟩
        · simp only [List.length_take] at o4 ⊢; omega
        · simp only [List.getElem?_take] at hc
          split at hc
          · exact o5 q c v hc hv
          · simp at hc
      · rw [g3] at o0; simp at o0
  · rw [List.getElem?_set_ne hij] at hkk
    exact h.blk j e k he hkk
theorem GR.trunc {H0 : List Blk} {R : AV → List Blk → Prop} {r : AV} {H : List Blk} {i ver ty : Nat} {cells : List AV} (n : Nat) (hk : H[i]? = some ⟨ver, ty, 1, cells⟩) (h : GR H0 R r (H.set i ⟨ver, ty, 1, cells.take n⟩)) : GR H0 R r H :=
  fun B W0 F0 m0 w0 F m w v hs0 hF hm hr hs => h B W0 F0 m0 w0 F m w v hs0 hF hm hr (hs.trunc hk n)
end Go.Av
namespace Go.Proofs.YthogadbnddmkdaaGreat
open Go.Av
theorem image_new (n : Nat) (p b : List Int) (hn : n ≤ 64) (hp : permOk n p) (hb : asc 0 ((n : Int) - 1) b = true) : NewS Tryz.prog f_impl_image [ilS p, ilS b] (img p b) := by
  intro H
  refine ACalls.introB s_impl_image (by simp) ?_; intro hB hA; unfold c_impl_image; simp (config := { maxSteps := 1000000 }) (disch := (first | omega | (simp only [go_sem]; try omega))) only [go_sem, Nat.reduceAdd, Nat.reduceEqDiff, Nat.reduceLeDiff, Nat.reduceMul, Nat.reduceLT, reduceIte, Int.reduceToNat, w64_id, cast_succ]
  repeat (first | (with_reducible first | refine SW.seq ?_ | refine SW.block ?_ | refine SW.rowC ?_ | refine SW.skip ?_ | refine SW.exit ?_ | intro _ | refine And.intro (by omega) ?_) | simp (config := { maxSteps := 1000000 }) (disch := (first | omega | (simp only [go_sem]; try omega))) only [go_sem, Nat.reduceAdd, Nat.reduceEqDiff, Nat.reduceLeDiff, Nat.reduceMul, Nat.reduceLT, reduceIte, Int.reduceToNat, w64_id, cast_succ])
  have hbl : b.length ≤ 64 := by rcases asc_len hb with h | h; (rw [h]; simp); omega
  have hbm := asc_mem hb
  refine SW.ghost (Gh.name 5 2 1 rfl) ?_
  simp (config := { maxSteps := 1000000 }) (disch := (first | omega | (simp only [go_sem]; try omega))) only [go_sem, Nat.reduceAdd, Nat.reduceEqDiff, Nat.reduceLeDiff, Nat.reduceMul, Nat.reduceLT, reduceIte, Int.reduceToNat, w64_id, cast_succ]
  refine SW.loopE (fun E0 H0 q E' H' => ∃ (pre post : List Int) (ver : Nat), b = pre ++ post ∧ q = post.length ∧ E' = aput (aput E0 10 (I pre.length)) 5 (.nm H.length ver 0 (pre.map (pa p)).length) ∧ H' = H ++ [⟨ver, 2, 1, (pre.map (pa p)).map I⟩]) b.length ⟨[], b, 0, rfl, rfl, rfl, rfl⟩ ?_
  rintro q E' H' ⟨pre, post, ver, hpp, rfl, rfl, rfl⟩
  have hpl : pre.length ≤ 64 := by rw [hpp] at hbl; simp at hbl; omega
  have hml : (pre.map (pa p)).length = pre.length := by simp
  have hms : ∀ y, (pre ++ [y]).map (pa p) = pre.map (pa p) ++ [pa p y] := fun y => by simp
  generalize hM : pre.map (pa p) = M at *
  have htl : (M.map I).take M.length = M.map I := List.take_of_length_le (by simp)
  simp (config := { maxSteps := 1000000 }) (disch := (first | omega | (simp only [go_sem]; try omega))) only [go_sem, Nat.reduceAdd, Nat.reduceEqDiff, Nat.reduceLeDiff, Nat.reduceMul, Nat.reduceLT, reduceIte, Int.reduceToNat, w64_id, cast_succ]
  repeat (first | (with_reducible first | refine SW.seq ?_ | refine SW.block ?_ | refine SW.rowC ?_ | refine SW.skip ?_ | refine SW.exit ?_ | intro _ | refine And.intro (by omega) ?_) | simp (config := { maxSteps := 1000000 }) (disch := (first | omega | (simp only [go_sem]; try omega))) only [go_sem, Nat.reduceAdd, Nat.reduceEqDiff, Nat.reduceLeDiff, Nat.reduceMul, Nat.reduceLT, reduceIte, Int.reduceToNat, w64_id, cast_succ])
  (first | refine SW.condD rfl (fun h => ?_) (fun h => ?_) | refine SW.condN rfl (fun h => ?_) (fun h => ?_) | refine SW.condNB rfl (fun h => ?_) (fun h => ?_) | refine SW.condB rfl (fun h => ?_) (fun h => ?_))
  · obtain ⟨y, post, rfl, hg, -⟩ := consOf (d := 0) hpp (by omega)
    have hy := hbm y (by rw [hpp]; simp)
    obtain ⟨hg1, hg2⟩ := pa_get hp hy.1 (by omega)
    repeat (first | (with_reducible first | refine SW.seq ?_ | refine SW.block ?_ | refine SW.rowC ?_ | refine SW.skip ?_ | refine SW.exit ?_ | intro _ | refine And.intro (by omega) ?_) | simp (config := { maxSteps := 1000000 }) (disch := (first | omega | (simp only [go_sem]; try omega))) only [go_sem, Nat.reduceAdd, Nat.reduceEqDiff, Nat.reduceLeDiff, Nat.reduceMul, Nat.reduceLT, reduceIte, Int.reduceToNat, w64_id, cast_succ, hg, hg2, htl])
    refine SLoop.nextT 1 post.length hB (by omega) (by simp) (by simp) ?_ ?_ ⟨pre ++ [y], post, ver + 1, by simp [hpp], rfl, ?_, ?_⟩
    · (simp only [go_sem, Nat.reduceAdd, Nat.reduceEqDiff, reduceIte, go_sem, and_self, and_true, true_and, implies_true, List.take_succ_cons, List.take_zero, and_true, true_and]; try omega)
    · (simp only [go_sem, Nat.reduceAdd, Nat.reduceEqDiff, reduceIte, go_sem, and_self, and_true, true_and, implies_true, List.take_succ_cons, List.take_zero, and_true, true_and]; try omega)
    · simp [go_sem, hml]
    · rw [hms]; simp
  · obtain ⟨rfl, rfl⟩ := nilOf hpp (by omega)
    repeat (first | (with_reducible first | refine SW.seq ?_ | refine SW.block ?_ | refine SW.rowC ?_ | refine SW.skip ?_ | refine SW.exit ?_ | intro _ | refine And.intro (by omega) ?_) | simp (config := { maxSteps := 1000000 }) (disch := (first | omega | (simp only [go_sem]; try omega))) only [go_sem, Nat.reduceAdd, Nat.reduceEqDiff, Nat.reduceLeDiff, Nat.reduceMul, Nat.reduceLT, reduceIte, Int.reduceToNat, w64_id, cast_succ])
    refine (sortI_ok sortL_p sortL_n _ H.length ver 2 M (by simp) (by omega)).mono ?_
    rintro r H' ⟨rfl, rfl⟩
    rw [← hM, img_is hp hb, hM]
    have hil : (img p pre).length = M.length := by rw [← img_is hp hb, hM, isort_length]
    repeat (first | (with_reducible first | refine SW.seq ?_ | refine SW.block ?_ | refine SW.rowC ?_ | refine SW.skip ?_ | refine SW.exit ?_ | intro _ | refine And.intro (by omega) ?_) | simp (config := { maxSteps := 1000000 }) (disch := (first | omega | (simp only [go_sem]; try omega))) only [go_sem, Nat.reduceAdd, Nat.reduceEqDiff, Nat.reduceLeDiff, Nat.reduceMul, Nat.reduceLT, reduceIte, Int.reduceToNat, w64_id, cast_succ])
    refine SW.ret ?_; (try simp only [go_sem]); (first | refine FunPost.one ?_ | refine FunPost.two ?_ | refine FunPost.three ?_); (try simp (config := { maxSteps := 1000000 }) (disch := (first | omega | (simp only [go_sem]; try omega))) only [go_sem, Nat.reduceAdd, Nat.reduceEqDiff, Nat.reduceLeDiff, Nat.reduceMul, Nat.reduceLT, reduceIte, Int.reduceToNat, w64_id, cast_succ])
    rw [← hil]
    exact GR.oneS (Nat.le_refl _) (by simp)
theorem OwnC.compact {H : List Blk} {N : Nat → Prop} {t ver ty : Nat} {cells : List AV} {xs : List (List Int)} (h : OwnC H N t ver ty cells xs) (m : Nat) (hm : m ≤ xs.length) :
    OwnC (H.set t ⟨ver, ty, 1, (keepI xs m).map (fun j => cells.getD j nilS)⟩) N t ver ty ((keepI xs m).map (fun j => cells.getD j nilS)) (ddT xs m) := by
  obtain ⟨h1, h2, h3, h4, h5⟩ := h
  have hlt := (List.getElem?_eq_some_iff.1 h2).1
  have hK : ∀ j ∈ keepI xs m, j < xs.length := fun j hj => by have := List.mem_range.1 (List.mem_filter.1 hj).1; omega
  have hKn : (keepI xs m).Nodup := by
    rw [List.nodup_iff_pairwise_ne]
    exact (List.pairwise_lt_range.filter _).imp (fun h => by omega)
  have hcg : ∀ j, j < xs.length → cells[j]? = some (cells.getD j nilS) := fun j hj => by
    rw [List.getD_eq_getElem?_getD, List.getElem?_eq_getElem (by omega)]; rfl
  refine ⟨h1, List.getElem?_set_self hlt, by rw [← keepI_map]; simp, ?_, ?_⟩
  · intro j c x hc hx
    rw [← keepI_map] at hx
    rw [List.getElem?_map] at hc hx
    cases hj : (keepI xs m)[j]? with
    | none => rw [hj] at hc; simp at hc
    | some q =>
      rw [hj] at hc hx
      simp only [Option.map_some, Option.some.injEq] at hc hx
      subst hc; subst hx
      have hq := hK q (List.mem_of_getElem? hj)
      refine (h4 q _ _ (hcg q hq) (by rw [List.getD_eq_getElem?_getD, List.getElem?_eq_getElem hq]; rfl)).same (fun r b hN hrt hb => ?_)
      rw [List.getElem?_set_ne (Ne.symm hrt)]; exact hb
  · intro i j r v o l v' o' l' hij g1 g2
    rw [List.getElem?_map] at g1 g2
    cases hi : (keepI xs m)[i]? with
    | none => rw [hi] at g1; simp at g1
    | some a =>
      cases hj : (keepI xs m)[j]? with
      | none => rw [hj] at g2; simp at g2
      | some b =>
        rw [hi] at g1; rw [hj] at g2
        simp only [Option.map_some, Option.some.injEq] at g1 g2
        have ha := hK a (List.mem_of_getElem? hi)
        have hb := hK b (List.mem_of_getElem? hj)
        have hab : a ≠ b := by
          rintro rfl
          obtain ⟨p1, p2⟩ := List.getElem?_eq_some_iff.1 hi
          obtain ⟨q1, q2⟩ := List.getElem?_eq_some_iff.1 hj
          exact hij ((List.getElem_inj hKn).1 (p2.trans q2.symm))
        exact h5 a b r v o l v' o' l' hab (by rw [hcg a ha, g1]) (by rw [hcg b hb, g2])
def imgsOf (els : List (List Int)) (set : List Int) : List (List Int) := els.map fun p => img p set
theorem imagesOf_own (H : List Blk) (n : Nat) (els : List (List Int)) (set : List Int) (hn : n ≤ 32) (hel : 1 ≤ els.length) (hl : els.length ≤ 720) (hp : ∀ p ∈ els, permOk n p) (hb : asc 0 ((n : Int) - 1) set = true) :
    ACalls Tryz.prog f_impl_imagesOf [.agg [I n, ilSS els], ilS set] H (fun r H' => ∃ ext, H' = H ++ ext ∧ OwnSS H' (Btw H.length H'.length) r (sortU cmpL (imgsOf els set))) := by
  refine ACalls.introB s_impl_imagesOf (by simp) ?_; intro hB hA; unfold c_impl_imagesOf; simp (config := { maxSteps := 1000000 }) (disch := (first | omega | (simp only [go_sem]; try omega))) only [go_sem, Nat.reduceAdd, Nat.reduceEqDiff, Nat.reduceLeDiff, Nat.reduceMul, Nat.reduceLT, reduceIte, Int.reduceToNat, w64_id, cast_succ]
  repeat (first | (with_reducible first | refine SW.seq ?_ | refine SW.block ?_ | refine SW.rowC ?_ | refine SW.skip ?_ | refine SW.exit ?_ | intro _ | refine And.intro (by omega) ?_) | simp (config := { maxSteps := 1000000 }) (disch := (first | omega | (simp only [go_sem]; try omega))) only [go_sem, Nat.reduceAdd, Nat.reduceEqDiff, Nat.reduceLeDiff, Nat.reduceMul, Nat.reduceLT, reduceIte, Int.reduceToNat, w64_id, cast_succ])
  refine SW.loopE (fun E0 H0 q E' H' => ∃ (pre post : List (List Int)) (v : AV), els = pre ++ post ∧ q = post.length ∧ E' = aput (aput E0 11 (I pre.length)) 5 v ∧ GrowSS H' (H.length + 1) tyLL v (imgsOf pre set) ∧ H.length + 1 ≤ H'.length ∧ ∀ j, j < H.length + 1 → H'[j]? = H0[j]?) els.length ⟨[], els, nilS, rfl, rfl, rfl, .inl ⟨rfl, rfl⟩, by simp, fun _ _ => rfl⟩ ?_
  rintro q E' H1 ⟨pre, post, v, hpp, rfl, rfl, hgr, hHl, hpre⟩
  have hprl : pre.length ≤ 720 := by rw [hpp] at hl; simp at hl; omega
  have hil : (imgsOf pre set).length = pre.length := by simp [imgsOf]
  simp (config := { maxSteps := 1000000 }) (disch := (first | omega | (simp only [go_sem]; try omega))) only [go_sem, Nat.reduceAdd, Nat.reduceEqDiff, Nat.reduceLeDiff, Nat.reduceMul, Nat.reduceLT, reduceIte, Int.reduceToNat, w64_id, cast_succ]
  repeat (first | (with_reducible first | refine SW.seq ?_ | refine SW.block ?_ | refine SW.rowC ?_ | refine SW.skip ?_ | refine SW.exit ?_ | intro _ | refine And.intro (by omega) ?_) | simp (config := { maxSteps := 1000000 }) (disch := (first | omega | (simp only [go_sem]; try omega))) only [go_sem, Nat.reduceAdd, Nat.reduceEqDiff, Nat.reduceLeDiff, Nat.reduceMul, Nat.reduceLT, reduceIte, Int.reduceToNat, w64_id, cast_succ])
  (first | refine SW.condD rfl (fun h2 => ?_) (fun h2 => ?_) | refine SW.condN rfl (fun h2 => ?_) (fun h2 => ?_) | refine SW.condNB rfl (fun h2 => ?_) (fun h2 => ?_) | refine SW.condB rfl (fun h2 => ?_) (fun h2 => ?_))
  · obtain ⟨p, post, rfl, hgp, -⟩ := consOf (d := []) hpp (by omega)
    have hpo := hp p (by rw [hpp]; simp)
    repeat (first | (with_reducible first | refine SW.seq ?_ | refine SW.block ?_ | refine SW.rowC ?_ | refine SW.skip ?_ | refine SW.exit ?_ | intro _ | refine And.intro (by omega) ?_) | simp (config := { maxSteps := 1000000 }) (disch := (first | omega | (simp only [go_sem]; try omega))) only [go_sem, Nat.reduceAdd, Nat.reduceEqDiff, Nat.reduceLeDiff, Nat.reduceMul, Nat.reduceLT, reduceIte, Int.reduceToNat, w64_id, cast_succ, hgp])
    refine (image_new n p set (by omega) hpo hb _).mono ?_
    rintro r H2 ⟨rfl, rfl⟩
    repeat (first | (with_reducible first | refine SW.seq ?_ | refine SW.block ?_ | refine SW.rowC ?_ | refine SW.skip ?_ | refine SW.exit ?_ | intro _ | refine And.intro (by omega) ?_) | simp (config := { maxSteps := 1000000 }) (disch := (first | omega | (simp only [go_sem]; try omega))) only [go_sem, Nat.reduceAdd, Nat.reduceEqDiff, Nat.reduceLeDiff, Nat.reduceMul, Nat.reduceLT, reduceIte, Int.reduceToNat, w64_id, cast_succ])
    refine GrowSS.appG rfl hgr (by omega) (Nat.le_refl _) (by rw [hil]; omega) (rv := 0) (rty := 2) (xs := img p set) (fun j b _ hb => by rw [List.getElem?_append_left (List.getElem?_eq_some_iff.1 hb).1]; exact hb) (by simp) ?_
    intro v3 H3 d1 d2 d3
    have e1 : imgsOf (pre ++ [p]) set = imgsOf pre set ++ [img p set] := by simp [imgsOf]
    repeat (first | (with_reducible first | refine SW.seq ?_ | refine SW.block ?_ | refine SW.rowC ?_ | refine SW.skip ?_ | refine SW.exit ?_ | intro _ | refine And.intro (by omega) ?_) | simp (config := { maxSteps := 1000000 }) (disch := (first | omega | (simp only [go_sem]; try omega))) only [go_sem, Nat.reduceAdd, Nat.reduceEqDiff, Nat.reduceLeDiff, Nat.reduceMul, Nat.reduceLT, reduceIte, Int.reduceToNat, w64_id, cast_succ])
    refine SLoop.next post.length (by simp) ⟨pre ++ [p], post, v3, by simp [hpp], rfl, by simp [go_sem], by rw [e1]; exact d1, by simp at d2; omega, fun j hj => ?_⟩
    rw [d3 j hj, List.getElem?_append_left (by omega)]; exact hpre j hj
  · obtain ⟨rfl, rfl⟩ := nilOf hpp (by omega)
    rcases hgr with ⟨_, h0⟩ | ⟨t, ver, cells, rfl, hown⟩
    · have := congrArg List.length h0
      rw [hil] at this
      simp only [List.length_nil] at this
      omega
    repeat (first | (with_reducible first | refine SW.seq ?_ | refine SW.block ?_ | refine SW.rowC ?_ | refine SW.skip ?_ | refine SW.exit ?_ | intro _ | refine And.intro (by omega) ?_) | simp (config := { maxSteps := 1000000 }) (disch := (first | omega | (simp only [go_sem]; try omega))) only [go_sem, Nat.reduceAdd, Nat.reduceEqDiff, Nat.reduceLeDiff, Nat.reduceMul, Nat.reduceLT, reduceIte, Int.reduceToNat, w64_id, cast_succ])
    refine (sortRows_ok hown (by omega)).mono ?_
    rintro r H2 ⟨rfl, cs, ys, hpm, hsd, rfl, hown2⟩
    have hlen : (imgsOf pre set).length = ys.length := hpm.length_eq.symm
    have ht := hown.1
    unfold Fr at ht
    have htl := (List.getElem?_eq_some_iff.1 hown.2.1).1
    have hpre2 : ∀ j, j < H.length → (H1.set t ⟨ver, tyLL, 1, cs⟩)[j]? = H[j]? := fun j hj => by
      rw [List.getElem?_set_ne (by omega), hpre j (by omega), List.getElem?_append_left hj]
    have hl2 : (H1.set t ⟨ver, tyLL, 1, cs⟩).length = H1.length := by simp
    generalize H1.set t ⟨ver, tyLL, 1, cs⟩ = H2 at *
    have hown3 := hown2
    obtain ⟨o1, o2, o3, o4, o5⟩ := hown2
    have hos : ∀ j, j < ys.length → OwnS H2 (Fr (H.length + 1)) t (cs.getD j nilS) (ys.getD j []) := fun j hj => by
      refine o4 j _ _ ?_ ?_
      · rw [List.getD_eq_getElem?_getD, List.getElem?_eq_getElem (by omega)]; rfl
      · rw [List.getD_eq_getElem?_getD, List.getElem?_eq_getElem hj]; rfl
    have hco := compact_ok H2 t ver tyLL ys cs o2 o3 (fun c hc => by
      obtain ⟨j, hj, rfl⟩ := List.getElem_of_mem hc
      have := o4 j _ _ (List.getElem?_eq_getElem hj) (List.getElem?_eq_getElem (by omega))
      rcases this with ⟨r, v, ty, h, _⟩ | ⟨_, h | h⟩ <;> rw [h] <;> exact ⟨rfl, rfl⟩) (fun cells' j hj => by
      refine ((hos j hj).same (fun r b _ hrt hb => ?_)).rd
      rw [List.getElem?_set_ne (Ne.symm hrt)]; exact hb) (by omega)
    rw [hlen]
    repeat (first | (with_reducible first | refine SW.seq ?_ | refine SW.block ?_ | refine SW.rowC ?_ | refine SW.skip ?_ | refine SW.exit ?_ | intro _ | refine And.intro (by omega) ?_) | simp (config := { maxSteps := 1000000 }) (disch := (first | omega | (simp only [go_sem]; try omega))) only [go_sem, Nat.reduceAdd, Nat.reduceEqDiff, Nat.reduceLeDiff, Nat.reduceMul, Nat.reduceLT, reduceIte, Int.reduceToNat, w64_id, cast_succ])
    refine hco.mono ?_
    rintro r H3 ⟨cells3, rfl, rfl, hct, hcl⟩
    repeat (first | (with_reducible first | refine SW.seq ?_ | refine SW.block ?_ | refine SW.rowC ?_ | refine SW.skip ?_ | refine SW.exit ?_ | intro _ | refine And.intro (by omega) ?_) | simp (config := { maxSteps := 1000000 }) (disch := (first | omega | (simp only [go_sem]; try omega))) only [go_sem, Nat.reduceAdd, Nat.reduceEqDiff, Nat.reduceLeDiff, Nat.reduceMul, Nat.reduceLT, reduceIte, Int.reduceToNat, w64_id, cast_succ])
    refine SW.ret ?_; (try simp only [go_sem]); (first | refine FunPost.one ?_ | refine FunPost.two ?_ | refine FunPost.three ?_); (try simp (config := { maxSteps := 1000000 }) (disch := (first | omega | (simp only [go_sem]; try omega))) only [go_sem, Nat.reduceAdd, Nat.reduceEqDiff, Nat.reduceLeDiff, Nat.reduceMul, Nat.reduceLT, reduceIte, Int.reduceToNat, w64_id, cast_succ])
    have hget3 : (H2.set t ⟨ver, tyLL, 1, cells3⟩)[t]? = some ⟨ver, tyLL, 1, cells3⟩ := List.getElem?_set_self (by omega)
    refine GR.trunc (keepI ys ys.length).length hget3 ?_
    rw [List.set_set, hct]
    have hcp := hown3.compact ys.length (Nat.le_refl _)
    have hdd : ddT ys ys.length = sortU cmpL (imgsOf pre set) := by
      rw [ddT_is hsd]
      refine asc_uniq cmpL_tot (sortU_asc cmpL_tot _) (sortU_asc cmpL_tot _) (fun y => ?_)
      rw [sortU_mem cmpL_tot, sortU_mem cmpL_tot]
      exact hpm.mem_iff
    have hkl : (keepI ys ys.length).length = (ddT ys ys.length).length := by rw [← keepI_map]; simp
    have hpx := prefix_of (H := H) (H' := H2.set t ⟨ver, tyLL, 1, (keepI ys ys.length).map (fun j => cs.getD j nilS)⟩) (by simp; omega) (fun j hj => by rw [List.getElem?_set_ne (by omega)]; exact hpre2 j hj)
    obtain ⟨ext, hext⟩ := hpx
    refine GR.of ⟨ext, hext, ?_⟩
    rw [← hdd, hkl]
    refine .inl ⟨t, ver, tyLL, _, rfl, hcp.weak (fun r h1 h2 => ?_)⟩
    unfold Fr at h1
    unfold Btw
    omega
end Go.Proofs.YthogadbnddmkdaaGreat
namespace Go.Proofs.YthogadbnddmkdaaGreat
open Go.Av
theorem pointSet_fn (n : Int) (els : List (List Int)) (set : List Int) (hl : ∀ x ∈ els, x.length ≤ 2000000) (hl2 : els.length ≤ 2000000) :
    PFn Tryz.prog f_impl_pointSet [.agg [I n, ilSS els], ilS set] (I (if grpB n els = true then (if asc 0 (n - 1) set = true then 0 else 2) else 1)) := by
  have hv := ValidGroup_fn n els hl hl2
  have hs := ValidSet_fn set n
  by_cases hg : grpB n els = true
  · rw [if_pos hg]
    rw [hg] at hv
    have hn := (grpB_t.1 hg).1
    rw [show (decide (0 ≤ n) && decide (n ≤ 32)) = true by rw [Bool.and_eq_true, decide_eq_true_eq, decide_eq_true_eq]; omega, Bool.and_true] at hs
    by_cases ha : asc 0 (n - 1) set = true
    · rw [if_pos ha]
      rw [ha] at hs
      intro H; refine ACalls.introB s_impl_pointSet (by simp) ?_; intro hB hA; unfold c_impl_pointSet; simp (config := { maxSteps := 1000000 }) (disch := (first | omega | (simp only [go_sem]; try omega))) only [go_sem, Nat.reduceAdd, Nat.reduceEqDiff, Nat.reduceLeDiff, Nat.reduceMul, Nat.reduceLT, reduceIte, Int.reduceToNat, w64_id, cast_succ]
      repeat (first | (with_reducible first | refine SW.seq ?_ | refine SW.block ?_ | refine SW.rowC ?_ | refine SW.skip ?_ | refine SW.exit ?_ | refine PFn.use (hv) ?_ | refine PFn.useq (hv) ?_ | intro _ | refine And.intro (by omega) ?_) | simp (config := { maxSteps := 1000000 }) (disch := (first | omega | (simp only [go_sem]; try omega))) only [go_sem, Nat.reduceAdd, Nat.reduceEqDiff, Nat.reduceLeDiff, Nat.reduceMul, Nat.reduceLT, reduceIte, Int.reduceToNat, w64_id, cast_succ])
      refine SW.condF rfl ?_
      repeat (first | (with_reducible first | refine SW.seq ?_ | refine SW.block ?_ | refine SW.rowC ?_ | refine SW.skip ?_ | refine SW.exit ?_ | refine PFn.use (hs) ?_ | refine PFn.useq (hs) ?_ | intro _ | refine And.intro (by omega) ?_) | simp (config := { maxSteps := 1000000 }) (disch := (first | omega | (simp only [go_sem]; try omega))) only [go_sem, Nat.reduceAdd, Nat.reduceEqDiff, Nat.reduceLeDiff, Nat.reduceMul, Nat.reduceLT, reduceIte, Int.reduceToNat, w64_id, cast_succ])
      refine SW.condF rfl ?_
      repeat (first | (with_reducible first | refine SW.seq ?_ | refine SW.block ?_ | refine SW.rowC ?_ | refine SW.skip ?_ | refine SW.exit ?_ | intro _ | refine And.intro (by omega) ?_) | simp (config := { maxSteps := 1000000 }) (disch := (first | omega | (simp only [go_sem]; try omega))) only [go_sem, Nat.reduceAdd, Nat.reduceEqDiff, Nat.reduceLeDiff, Nat.reduceMul, Nat.reduceLT, reduceIte, Int.reduceToNat, w64_id, cast_succ])
      refine SW.ret ?_; (try simp only [go_sem]); (first | refine FunPost.one ?_ | refine FunPost.two ?_ | refine FunPost.three ?_); (try simp (config := { maxSteps := 1000000 }) (disch := (first | omega | (simp only [go_sem]; try omega))) only [go_sem, Nat.reduceAdd, Nat.reduceEqDiff, Nat.reduceLeDiff, Nat.reduceMul, Nat.reduceLT, reduceIte, Int.reduceToNat, w64_id, cast_succ]); (first | (with_reducible refine GR.drop ?_ ?_; (simp only [go_sem, and_self, and_true, true_and, implies_true, List.take_succ_cons, List.take_zero])) | refine GR.of ?_); refine ⟨?_, rfl⟩; (try with_reducible rfl)
    · rw [if_neg ha]
      rw [Bool.not_eq_true] at ha
      rw [ha] at hs
      intro H; refine ACalls.introB s_impl_pointSet (by simp) ?_; intro hB hA; unfold c_impl_pointSet; simp (config := { maxSteps := 1000000 }) (disch := (first | omega | (simp only [go_sem]; try omega))) only [go_sem, Nat.reduceAdd, Nat.reduceEqDiff, Nat.reduceLeDiff, Nat.reduceMul, Nat.reduceLT, reduceIte, Int.reduceToNat, w64_id, cast_succ]
      repeat (first | (with_reducible first | refine SW.seq ?_ | refine SW.block ?_ | refine SW.rowC ?_ | refine SW.skip ?_ | refine SW.exit ?_ | refine PFn.use (hv) ?_ | refine PFn.useq (hv) ?_ | intro _ | refine And.intro (by omega) ?_) | simp (config := { maxSteps := 1000000 }) (disch := (first | omega | (simp only [go_sem]; try omega))) only [go_sem, Nat.reduceAdd, Nat.reduceEqDiff, Nat.reduceLeDiff, Nat.reduceMul, Nat.reduceLT, reduceIte, Int.reduceToNat, w64_id, cast_succ])
      refine SW.condF rfl ?_
      repeat (first | (with_reducible first | refine SW.seq ?_ | refine SW.block ?_ | refine SW.rowC ?_ | refine SW.skip ?_ | refine SW.exit ?_ | refine PFn.use (hs) ?_ | refine PFn.useq (hs) ?_ | intro _ | refine And.intro (by omega) ?_) | simp (config := { maxSteps := 1000000 }) (disch := (first | omega | (simp only [go_sem]; try omega))) only [go_sem, Nat.reduceAdd, Nat.reduceEqDiff, Nat.reduceLeDiff, Nat.reduceMul, Nat.reduceLT, reduceIte, Int.reduceToNat, w64_id, cast_succ])
      refine SW.condT rfl ?_
      repeat (first | (with_reducible first | refine SW.seq ?_ | refine SW.block ?_ | refine SW.rowC ?_ | refine SW.skip ?_ | refine SW.exit ?_ | intro _ | refine And.intro (by omega) ?_) | simp (config := { maxSteps := 1000000 }) (disch := (first | omega | (simp only [go_sem]; try omega))) only [go_sem, Nat.reduceAdd, Nat.reduceEqDiff, Nat.reduceLeDiff, Nat.reduceMul, Nat.reduceLT, reduceIte, Int.reduceToNat, w64_id, cast_succ])
      refine SW.ret ?_; (try simp only [go_sem]); (first | refine FunPost.one ?_ | refine FunPost.two ?_ | refine FunPost.three ?_); (try simp (config := { maxSteps := 1000000 }) (disch := (first | omega | (simp only [go_sem]; try omega))) only [go_sem, Nat.reduceAdd, Nat.reduceEqDiff, Nat.reduceLeDiff, Nat.reduceMul, Nat.reduceLT, reduceIte, Int.reduceToNat, w64_id, cast_succ]); (first | (with_reducible refine GR.drop ?_ ?_; (simp only [go_sem, and_self, and_true, true_and, implies_true, List.take_succ_cons, List.take_zero])) | refine GR.of ?_); refine ⟨?_, rfl⟩; (try with_reducible rfl)
  · rw [if_neg hg]
    rw [Bool.not_eq_true] at hg
    rw [hg] at hv
    intro H; refine ACalls.introB s_impl_pointSet (by simp) ?_; intro hB hA; unfold c_impl_pointSet; simp (config := { maxSteps := 1000000 }) (disch := (first | omega | (simp only [go_sem]; try omega))) only [go_sem, Nat.reduceAdd, Nat.reduceEqDiff, Nat.reduceLeDiff, Nat.reduceMul, Nat.reduceLT, reduceIte, Int.reduceToNat, w64_id, cast_succ]
    repeat (first | (with_reducible first | refine SW.seq ?_ | refine SW.block ?_ | refine SW.rowC ?_ | refine SW.skip ?_ | refine SW.exit ?_ | refine PFn.use (hv) ?_ | refine PFn.useq (hv) ?_ | intro _ | refine And.intro (by omega) ?_) | simp (config := { maxSteps := 1000000 }) (disch := (first | omega | (simp only [go_sem]; try omega))) only [go_sem, Nat.reduceAdd, Nat.reduceEqDiff, Nat.reduceLeDiff, Nat.reduceMul, Nat.reduceLT, reduceIte, Int.reduceToNat, w64_id, cast_succ])
    refine SW.condT rfl ?_
    repeat (first | (with_reducible first | refine SW.seq ?_ | refine SW.block ?_ | refine SW.rowC ?_ | refine SW.skip ?_ | refine SW.exit ?_ | intro _ | refine And.intro (by omega) ?_) | simp (config := { maxSteps := 1000000 }) (disch := (first | omega | (simp only [go_sem]; try omega))) only [go_sem, Nat.reduceAdd, Nat.reduceEqDiff, Nat.reduceLeDiff, Nat.reduceMul, Nat.reduceLT, reduceIte, Int.reduceToNat, w64_id, cast_succ])
    refine SW.ret ?_; (try simp only [go_sem]); (first | refine FunPost.one ?_ | refine FunPost.two ?_ | refine FunPost.three ?_); (try simp (config := { maxSteps := 1000000 }) (disch := (first | omega | (simp only [go_sem]; try omega))) only [go_sem, Nat.reduceAdd, Nat.reduceEqDiff, Nat.reduceLeDiff, Nat.reduceMul, Nat.reduceLT, reduceIte, Int.reduceToNat, w64_id, cast_succ]); (first | (with_reducible refine GR.drop ?_ ?_; (simp only [go_sem, and_self, and_true, true_and, implies_true, List.take_succ_cons, List.take_zero])) | refine GR.of ?_); refine ⟨?_, rfl⟩; (try with_reducible rfl)
noncomputable def imV (n : Int) (els : List (List Int)) (set : List Int) : Int := if grpB n els = true then (if asc 0 (n - 1) set = true then 0 else 2) else 1
noncomputable def olV (n : Int) (els : List (List Int)) (set : List Int) : Int × Int := if imV n els set = 0 then (((sortU cmpL (imgsOf els set)).length : Int), 0) else (0, imV n els set)
noncomputable def liV (n : Int) (els : List (List Int)) (set : List Int) : List Int × Int := if imV n els set = 0 then ((sortU cmpL (imgsOf els set)).getD 0 [], 0) else ([], imV n els set)
theorem imV_zero {n : Int} {els : List (List Int)} {set : List Int} (h : imV n els set = 0) : grpOk n els ∧ asc 0 (n - 1) set = true := by
  unfold imV at h
  split at h
  · rename_i hg
    split at h
    · rename_i ha; exact ⟨grpB_t.1 hg, ha⟩
    · omega
  · omega
theorem imagesOf_grp {n : Int} {els : List (List Int)} {set : List Int} (hg : grpOk n els) (ha : asc 0 (n - 1) set = true) (H : List Blk) :
    ACalls Tryz.prog f_impl_imagesOf [.agg [I n, ilSS els], ilS set] H (fun r H' => ∃ ext, H' = H ++ ext ∧ OwnSS H' (Btw H.length H'.length) r (sortU cmpL (imgsOf els set))) := by
  have en : n = ((n.toNat : Nat) : Int) := by have := hg.1; omega
  have := imagesOf_own H n.toNat els set (by have := hg.1; omega) hg.2.1.1 hg.2.1.2 hg.2.2.1 (by rw [← en]; exact ha)
  rwa [← en] at this
theorem implOrbitLength_fn (n : Int) (els : List (List Int)) (set : List Int) (hl : ∀ x ∈ els, x.length ≤ 2000000) (hl2 : els.length ≤ 2000000) :
    PFn Tryz.prog f_impl_OrbitLength [.agg [I n, ilSS els], ilS set] (.tup [I (olV n els set).1, I (olV n els set).2]) := by
  have hps : PFn Tryz.prog f_impl_pointSet [.agg [I n, ilSS els], ilS set] (I (imV n els set)) := pointSet_fn n els set hl hl2
  unfold olV
  by_cases h0 : imV n els set = 0
  · rw [if_pos h0]
    obtain ⟨hg, ha⟩ := imV_zero h0
    have dd := decide_eq_true h0
    rw [h0] at hps
    intro H; refine ACalls.introB s_impl_OrbitLength (by simp) ?_; intro hB hA; unfold c_impl_OrbitLength; simp (config := { maxSteps := 1000000 }) (disch := (first | omega | (simp only [go_sem]; try omega))) only [go_sem, Nat.reduceAdd, Nat.reduceEqDiff, Nat.reduceLeDiff, Nat.reduceMul, Nat.reduceLT, reduceIte, Int.reduceToNat, w64_id, cast_succ]
    repeat (first | (with_reducible first | refine SW.seq ?_ | refine SW.block ?_ | refine SW.rowC ?_ | refine SW.skip ?_ | refine SW.exit ?_ | refine PFn.use (hps) ?_ | refine PFn.useq (hps) ?_ | intro _ | refine And.intro (by omega) ?_) | simp (config := { maxSteps := 1000000 }) (disch := (first | omega | (simp only [go_sem]; try omega))) only [go_sem, Nat.reduceAdd, Nat.reduceEqDiff, Nat.reduceLeDiff, Nat.reduceMul, Nat.reduceLT, reduceIte, Int.reduceToNat, w64_id, cast_succ])
    refine SW.condF rfl ?_
    repeat (first | (with_reducible first | refine SW.seq ?_ | refine SW.block ?_ | refine SW.rowC ?_ | refine SW.skip ?_ | refine SW.exit ?_ | intro _ | refine And.intro (by omega) ?_) | simp (config := { maxSteps := 1000000 }) (disch := (first | omega | (simp only [go_sem]; try omega))) only [go_sem, Nat.reduceAdd, Nat.reduceEqDiff, Nat.reduceLeDiff, Nat.reduceMul, Nat.reduceLT, reduceIte, Int.reduceToNat, w64_id, cast_succ])
    refine (imagesOf_grp hg ha _).mono ?_
    rintro r H' ⟨ext, rfl, ho⟩
    have hf := ho.froz (base := 0) (fun r _ => Nat.zero_le _)
    simp only [List.append_assoc, List.cons_append, List.nil_append] at hf
    repeat (first | (with_reducible first | refine SW.seq ?_ | refine SW.block ?_ | refine SW.rowC ?_ | refine SW.skip ?_ | refine SW.exit ?_ | intro _ | refine And.intro (by omega) ?_) | simp (config := { maxSteps := 1000000 }) (disch := (first | omega | (simp only [go_sem]; try omega))) only [go_sem, Nat.reduceAdd, Nat.reduceEqDiff, Nat.reduceLeDiff, Nat.reduceMul, Nat.reduceLT, reduceIte, Int.reduceToNat, w64_id, cast_succ])
    refine PFn.usel (sizeS_fn _) (.cons hf .nil) ?_
    repeat (first | (with_reducible first | refine SW.seq ?_ | refine SW.block ?_ | refine SW.rowC ?_ | refine SW.skip ?_ | refine SW.exit ?_ | intro _ | refine And.intro (by omega) ?_) | simp (config := { maxSteps := 1000000 }) (disch := (first | omega | (simp only [go_sem]; try omega))) only [go_sem, Nat.reduceAdd, Nat.reduceEqDiff, Nat.reduceLeDiff, Nat.reduceMul, Nat.reduceLT, reduceIte, Int.reduceToNat, w64_id, cast_succ])
    refine SW.ret ?_; (try simp only [go_sem]); (first | refine FunPost.one ?_ | refine FunPost.two ?_ | refine FunPost.three ?_); (try simp (config := { maxSteps := 1000000 }) (disch := (first | omega | (simp only [go_sem]; try omega))) only [go_sem, Nat.reduceAdd, Nat.reduceEqDiff, Nat.reduceLeDiff, Nat.reduceMul, Nat.reduceLT, reduceIte, Int.reduceToNat, w64_id, cast_succ]); (first | (with_reducible refine GR.drop ?_ ?_; (simp only [go_sem, and_self, and_true, true_and, implies_true, List.take_succ_cons, List.take_zero])) | refine GR.of ?_); refine ⟨?_, rfl⟩; (try with_reducible rfl)
  · rw [if_neg h0]
    have dd := decide_eq_false h0
    intro H; refine ACalls.introB s_impl_OrbitLength (by simp) ?_; intro hB hA; unfold c_impl_OrbitLength; simp (config := { maxSteps := 1000000 }) (disch := (first | omega | (simp only [go_sem]; try omega))) only [go_sem, Nat.reduceAdd, Nat.reduceEqDiff, Nat.reduceLeDiff, Nat.reduceMul, Nat.reduceLT, reduceIte, Int.reduceToNat, w64_id, cast_succ]
    repeat (first | (with_reducible first | refine SW.seq ?_ | refine SW.block ?_ | refine SW.rowC ?_ | refine SW.skip ?_ | refine SW.exit ?_ | refine PFn.use (hps) ?_ | refine PFn.useq (hps) ?_ | intro _ | refine And.intro (by omega) ?_) | simp (config := { maxSteps := 1000000 }) (disch := (first | omega | (simp only [go_sem]; try omega))) only [go_sem, Nat.reduceAdd, Nat.reduceEqDiff, Nat.reduceLeDiff, Nat.reduceMul, Nat.reduceLT, reduceIte, Int.reduceToNat, w64_id, cast_succ, dd])
    refine SW.condT rfl ?_
    repeat (first | (with_reducible first | refine SW.seq ?_ | refine SW.block ?_ | refine SW.rowC ?_ | refine SW.skip ?_ | refine SW.exit ?_ | intro _ | refine And.intro (by omega) ?_) | simp (config := { maxSteps := 1000000 }) (disch := (first | omega | (simp only [go_sem]; try omega))) only [go_sem, Nat.reduceAdd, Nat.reduceEqDiff, Nat.reduceLeDiff, Nat.reduceMul, Nat.reduceLT, reduceIte, Int.reduceToNat, w64_id, cast_succ])
    refine SW.ret ?_; (try simp only [go_sem]); (first | refine FunPost.one ?_ | refine FunPost.two ?_ | refine FunPost.three ?_); (try simp (config := { maxSteps := 1000000 }) (disch := (first | omega | (simp only [go_sem]; try omega))) only [go_sem, Nat.reduceAdd, Nat.reduceEqDiff, Nat.reduceLeDiff, Nat.reduceMul, Nat.reduceLT, reduceIte, Int.reduceToNat, w64_id, cast_succ]); (first | (with_reducible refine GR.drop ?_ ?_; (simp only [go_sem, and_self, and_true, true_and, implies_true, List.take_succ_cons, List.take_zero])) | refine GR.of ?_); refine ⟨?_, rfl⟩; (try with_reducible rfl)
theorem sortU_ne {els : List (List Int)} {set : List Int} (h : 1 ≤ els.length) : 1 ≤ (sortU cmpL (imgsOf els set)).length := by
  cases els with
  | nil => simp at h
  | cons p r =>
    have hm : img p set ∈ sortU cmpL (imgsOf (p :: r) set) := (sortU_mem cmpL_tot _ _).2 (by simp [imgsOf])
    exact List.length_pos_of_mem hm
theorem implLeastImage_fs (n : Int) (els : List (List Int)) (set : List Int) (hl : ∀ x ∈ els, x.length ≤ 2000000) (hl2 : els.length ≤ 2000000) :
    FS Tryz.prog f_impl_LeastImage [.agg [I n, ilSS els], ilS set] (liV n els set).1 (liV n els set).2 := by
  have hps : PFn Tryz.prog f_impl_pointSet [.agg [I n, ilSS els], ilS set] (I (imV n els set)) := pointSet_fn n els set hl hl2
  unfold liV
  intro H
  by_cases h0 : imV n els set = 0
  · rw [if_pos h0]
    obtain ⟨hg, ha⟩ := imV_zero h0
    rw [h0] at hps
    have hne := sortU_ne (set := set) hg.2.1.1
    generalize hL : sortU cmpL (imgsOf els set) = L at *
    refine ACalls.introB s_impl_LeastImage (by simp) ?_; intro hB hA; unfold c_impl_LeastImage; simp (config := { maxSteps := 1000000 }) (disch := (first | omega | (simp only [go_sem]; try omega))) only [go_sem, Nat.reduceAdd, Nat.reduceEqDiff, Nat.reduceLeDiff, Nat.reduceMul, Nat.reduceLT, reduceIte, Int.reduceToNat, w64_id, cast_succ]
    repeat (first | (with_reducible first | refine SW.seq ?_ | refine SW.block ?_ | refine SW.rowC ?_ | refine SW.skip ?_ | refine SW.exit ?_ | refine PFn.use (hps) ?_ | refine PFn.useq (hps) ?_ | intro _ | refine And.intro (by omega) ?_) | simp (config := { maxSteps := 1000000 }) (disch := (first | omega | (simp only [go_sem]; try omega))) only [go_sem, Nat.reduceAdd, Nat.reduceEqDiff, Nat.reduceLeDiff, Nat.reduceMul, Nat.reduceLT, reduceIte, Int.reduceToNat, w64_id, cast_succ])
    refine SW.condF rfl ?_
    repeat (first | (with_reducible first | refine SW.seq ?_ | refine SW.block ?_ | refine SW.rowC ?_ | refine SW.skip ?_ | refine SW.exit ?_ | intro _ | refine And.intro (by omega) ?_) | simp (config := { maxSteps := 1000000 }) (disch := (first | omega | (simp only [go_sem]; try omega))) only [go_sem, Nat.reduceAdd, Nat.reduceEqDiff, Nat.reduceLeDiff, Nat.reduceMul, Nat.reduceLT, reduceIte, Int.reduceToNat, w64_id, cast_succ])
    refine (imagesOf_grp hg ha _).mono ?_
    rintro r H' ⟨ext, hH', ho⟩
    rw [hL] at ho
    have hle : H.length < H'.length := by rw [hH']; simp
    have hpx : ∃ e, H' = H ++ e := ⟨_, by rw [hH', List.append_assoc]⟩
    rcases ho with ⟨t, ver, ty, cells, rfl, ho⟩ | ⟨h1, _⟩
    rotate_left
    · rw [h1] at hne; simp at hne
    obtain ⟨o1, o2, o3, o4, o5⟩ := ho
    have hc0 : cells[0]? = some (cells.getD 0 nilS) := by rw [List.getD_eq_getElem?_getD, List.getElem?_eq_getElem (by omega)]; rfl
    have ho4 := o4 0 _ (L.getD 0 []) hc0 (by rw [List.getD_eq_getElem?_getD, List.getElem?_eq_getElem (by omega)]; rfl)
    generalize cells.getD 0 nilS = c at *
    have hv : aview H' (.nm t ver 0 L.length) = some (L.length, cells) := view_nm o2 o3
    have h00 : ((0 : Nat) : Int) = 0 := rfl
    repeat (first | (with_reducible first | refine SW.seq ?_ | refine SW.block ?_ | refine SW.rowC ?_ | refine SW.skip ?_ | refine SW.exit ?_ | intro _ | refine And.intro (by omega) ?_) | simp (config := { maxSteps := 1000000 }) (disch := (first | omega | (simp only [go_sem]; try omega))) only [go_sem, Nat.reduceAdd, Nat.reduceEqDiff, Nat.reduceLeDiff, Nat.reduceMul, Nat.reduceLT, reduceIte, Int.reduceToNat, w64_id, cast_succ, hv, hc0])
    refine SW.ret ?_; (try simp only [go_sem]); (first | refine FunPost.one ?_ | refine FunPost.two ?_ | refine FunPost.three ?_); (try simp (config := { maxSteps := 1000000 }) (disch := (first | omega | (simp only [go_sem]; try omega))) only [go_sem, Nat.reduceAdd, Nat.reduceEqDiff, Nat.reduceLeDiff, Nat.reduceMul, Nat.reduceLT, reduceIte, Int.reduceToNat, w64_id, cast_succ])
    obtain ⟨e, rfl⟩ := hpx
    refine GR.of ⟨e, c, _, rfl, rfl, ?_, rfl⟩
    rcases ho4 with ⟨r, v2, t2, rfl, g1, g2, g3⟩ | h
    · refine .inl ⟨r, v2, t2, rfl, ?_, ?_, g3⟩
      · unfold Btw at g1 ⊢; simp at g1 ⊢; omega
      · have := (List.getElem?_eq_some_iff.1 g3).1; omega
    · exact .inr h
  · rw [if_neg h0]
    have dd := decide_eq_false h0
    refine ACalls.introB s_impl_LeastImage (by simp) ?_; intro hB hA; unfold c_impl_LeastImage; simp (config := { maxSteps := 1000000 }) (disch := (first | omega | (simp only [go_sem]; try omega))) only [go_sem, Nat.reduceAdd, Nat.reduceEqDiff, Nat.reduceLeDiff, Nat.reduceMul, Nat.reduceLT, reduceIte, Int.reduceToNat, w64_id, cast_succ]
    repeat (first | (with_reducible first | refine SW.seq ?_ | refine SW.block ?_ | refine SW.rowC ?_ | refine SW.skip ?_ | refine SW.exit ?_ | refine PFn.use (hps) ?_ | refine PFn.useq (hps) ?_ | intro _ | refine And.intro (by omega) ?_) | simp (config := { maxSteps := 1000000 }) (disch := (first | omega | (simp only [go_sem]; try omega))) only [go_sem, Nat.reduceAdd, Nat.reduceEqDiff, Nat.reduceLeDiff, Nat.reduceMul, Nat.reduceLT, reduceIte, Int.reduceToNat, w64_id, cast_succ, dd])
    refine SW.condT rfl ?_
    repeat (first | (with_reducible first | refine SW.seq ?_ | refine SW.block ?_ | refine SW.rowC ?_ | refine SW.skip ?_ | refine SW.exit ?_ | intro _ | refine And.intro (by omega) ?_) | simp (config := { maxSteps := 1000000 }) (disch := (first | omega | (simp only [go_sem]; try omega))) only [go_sem, Nat.reduceAdd, Nat.reduceEqDiff, Nat.reduceLeDiff, Nat.reduceMul, Nat.reduceLT, reduceIte, Int.reduceToNat, w64_id, cast_succ])
    refine SW.ret ?_; (try simp only [go_sem]); (first | refine FunPost.one ?_ | refine FunPost.two ?_ | refine FunPost.three ?_); (try simp (config := { maxSteps := 1000000 }) (disch := (first | omega | (simp only [go_sem]; try omega))) only [go_sem, Nat.reduceAdd, Nat.reduceEqDiff, Nat.reduceLeDiff, Nat.reduceMul, Nat.reduceLT, reduceIte, Int.reduceToNat, w64_id, cast_succ])
    exact GR.of nilFS1
end Go.Proofs.YthogadbnddmkdaaGreat
