/- Groups of permutations: searched for; valid groups in the program. Groups of permutations: valid groups in the program. Groups of permutations: the closure in the reference. Groups of permutations: valid groups in the reference. Groups of permutations: valid groups in the reference, all told. -/
import Derived.Test.YtkifdjjnbplghaaGreatzL8
import Derived.Test.YtkifdjjnbplghaaGreatProg
import Derived.KernelRfl
import Derived.Test.YtkifdjjnbplghaaGreatzVA
import Derived.Test.YtkifdjjnbplghaaGreatzQ2
import Derived.Test.YtkifdjjnbplghaaGreatzK3
import Derived.Test.YtkifdjjnbplghaaGreatzD1
set_option linter.unusedSimpArgs false
set_option linter.unusedVariables false
set_option maxHeartbeats 4000000
set_option maxRecDepth 100000
namespace Go.Proofs.YtkifdjjnbplghaaGreat
open Go.Av
abbrev f_spec_l05Ok : Nat := 41
def c_spec_l05Ok : SC :=
 .seq (.reg [
     ⟨(some 2), .mv (.const (.bool false)), none⟩] [0])
 (.seq (.seq (.reg [
     ⟨(some 6), .mv (.tmp 0), none⟩,
     ⟨(some 7), .nilc (.tmp 6), none⟩,
     ⟨(some 8), .faddr 0 (.tmp 7), none⟩,
     ⟨(some 9), .load 1 false (.tmp 8), none⟩,
     ⟨(some 10), .call 56 [(.tmp 9), (.const (.int .i64 1)), (.const (.int .i64 32))], none⟩,
     ⟨(some 11), .un .not (.tmp 10), none⟩,
     ⟨(some 12), .mv (.tmp 11), none⟩,
     ⟨(some 13), .mv (.tmp 0), (some (12, false))⟩,
     ⟨(some 14), .nilc (.tmp 13), (some (12, false))⟩,
     ⟨(some 15), .faddr 1 (.tmp 14), (some (12, false))⟩,
     ⟨(some 16), .load 1 false (.tmp 15), (some (12, false))⟩,
     ⟨(some 17), .len (.tmp 16), (some (12, false))⟩,
     ⟨(some 18), .bin .eql (.tmp 17) (.const (.int .i64 0)), (some (12, false))⟩,
     ⟨(some 19), .pick (.tmp 12) (.const (.bool true)) (.tmp 18), none⟩,
     ⟨(some 20), .mv (.tmp 19), none⟩,
     ⟨(some 21), .mv (.tmp 0), (some (20, false))⟩,
     ⟨(some 22), .nilc (.tmp 21), (some (20, false))⟩,
     ⟨(some 23), .faddr 1 (.tmp 22), (some (20, false))⟩,
     ⟨(some 24), .load 1 false (.tmp 23), (some (20, false))⟩,
     ⟨(some 25), .len (.tmp 24), (some (20, false))⟩,
     ⟨(some 26), .bin .gtr (.tmp 25) (.const (.int .i64 720)), (some (20, false))⟩,
     ⟨(some 27), .pick (.tmp 20) (.const (.bool true)) (.tmp 26), none⟩] [0, 27])
 (.cond (.tmp 27)
  (.seq (.reg [
      ⟨(some 2), .mv (.const (.bool false)), none⟩] [2])
  (.ret))
  (.skip)))
 (.seq (.seq (.reg [
     ⟨(some 3), .mv (.const (.int .i64 0)), none⟩] [0, 3])
 (.block 0 (.loop [0, 3]
   (.seq (.seq (.reg [
       ⟨(some 28), .mv (.tmp 3), none⟩,
       ⟨(some 29), .mv (.tmp 0), none⟩,
       ⟨(some 30), .nilc (.tmp 29), none⟩,
       ⟨(some 31), .faddr 1 (.tmp 30), none⟩,
       ⟨(some 32), .load 1 false (.tmp 31), none⟩,
       ⟨(some 33), .len (.tmp 32), none⟩,
       ⟨(some 34), .bin .lss (.tmp 28) (.tmp 33), none⟩] [0, 3, 34])
   (.cond (.tmp 34)
    (.skip)
    (.exit 0)))
   (.seq (.block 1 (.seq (.reg [
        ⟨(some 37), .mv (.tmp 0), none⟩,
        ⟨(some 38), .nilc (.tmp 37), none⟩,
        ⟨(some 39), .faddr 1 (.tmp 38), none⟩,
        ⟨(some 40), .load 1 false (.tmp 39), none⟩,
        ⟨(some 41), .mv (.tmp 3), none⟩,
        ⟨(some 42), .iaddr 1 (.tmp 40) (.tmp 41), none⟩,
        ⟨(some 43), .load 1 false (.tmp 42), none⟩,
        ⟨(some 44), .qcall 73 [(.tmp 43)], none⟩,
        ⟨(some 45), .un .not (.tmp 44), none⟩,
        ⟨(some 46), .mv (.tmp 45), none⟩,
        ⟨(some 47), .mv (.tmp 0), (some (46, false))⟩,
        ⟨(some 48), .nilc (.tmp 47), (some (46, false))⟩,
        ⟨(some 49), .faddr 1 (.tmp 48), (some (46, false))⟩,
        ⟨(some 50), .load 1 false (.tmp 49), (some (46, false))⟩,
        ⟨(some 51), .mv (.tmp 3), (some (46, false))⟩,
        ⟨(some 52), .iaddr 1 (.tmp 50) (.tmp 51), (some (46, false))⟩,
        ⟨(some 53), .load 1 false (.tmp 52), (some (46, false))⟩,
        ⟨(some 54), .qlen (.tmp 53), (some (46, false))⟩,
        ⟨(some 55), .mv (.tmp 0), (some (46, false))⟩,
        ⟨(some 56), .nilc (.tmp 55), (some (46, false))⟩,
        ⟨(some 57), .faddr 0 (.tmp 56), (some (46, false))⟩,
        ⟨(some 58), .load 1 false (.tmp 57), (some (46, false))⟩,
        ⟨(some 59), .bin .neq (.tmp 54) (.tmp 58), (some (46, false))⟩,
        ⟨(some 60), .pick (.tmp 46) (.const (.bool true)) (.tmp 59), none⟩,
        ⟨(some 61), .mv (.tmp 60), none⟩,
        ⟨(some 62), .mv (.tmp 3), (some (61, false))⟩,
        ⟨(some 63), .bin .gtr (.tmp 62) (.const (.int .i64 0)), (some (61, false))⟩,
        ⟨(some 64), .mv (.tmp 63), (some (61, false))⟩,
        ⟨(some 65), .mv (.tmp 0), (some (64, true))⟩,
        ⟨(some 66), .nilc (.tmp 65), (some (64, true))⟩,
        ⟨(some 67), .faddr 1 (.tmp 66), (some (64, true))⟩,
        ⟨(some 68), .load 1 false (.tmp 67), (some (64, true))⟩,
        ⟨(some 69), .mv (.tmp 3), (some (64, true))⟩,
        ⟨(some 70), .bin .sub (.tmp 69) (.const (.int .i64 1)), (some (64, true))⟩,
        ⟨(some 71), .iaddr 1 (.tmp 68) (.tmp 70), (some (64, true))⟩,
        ⟨(some 72), .load 1 false (.tmp 71), (some (64, true))⟩,
        ⟨(some 73), .mv (.tmp 0), (some (64, true))⟩,
        ⟨(some 74), .nilc (.tmp 73), (some (64, true))⟩,
        ⟨(some 75), .faddr 1 (.tmp 74), (some (64, true))⟩,
        ⟨(some 76), .load 1 false (.tmp 75), (some (64, true))⟩,
        ⟨(some 77), .mv (.tmp 3), (some (64, true))⟩,
        ⟨(some 78), .iaddr 1 (.tmp 76) (.tmp 77), (some (64, true))⟩,
        ⟨(some 79), .load 1 false (.tmp 78), (some (64, true))⟩,
        ⟨(some 80), .qcall 72 [(.tmp 72), (.tmp 79)], (some (64, true))⟩,
        ⟨(some 81), .bin .geq (.tmp 80) (.const (.int .i64 0)), (some (64, true))⟩,
        ⟨(some 82), .pick (.tmp 64) (.tmp 81) (.const (.bool false)), (some (61, false))⟩,
        ⟨(some 83), .pick (.tmp 61) (.const (.bool true)) (.tmp 82), none⟩] [0, 3, 83])
    (.cond (.tmp 83)
     (.seq (.reg [
         ⟨(some 2), .mv (.const (.bool false)), none⟩] [2])
     (.ret))
     (.skip))))
   (.reg [
       ⟨(some 35), .mv (.tmp 3), none⟩,
       ⟨(some 36), .bin .add (.tmp 35) (.const (.int .i64 1)), none⟩,
       ⟨(some 3), .mv (.tmp 36), none⟩] [0, 3]))))))
 (.seq (.reg [
     ⟨(some 85), .mv (.tmp 0), none⟩,
     ⟨(some 86), .nilc (.tmp 85), none⟩,
     ⟨(some 87), .faddr 0 (.tmp 86), none⟩,
     ⟨(some 88), .load 1 false (.tmp 87), none⟩,
     ⟨(some 89), .mv (.tmp 0), none⟩,
     ⟨(some 90), .nilc (.tmp 89), none⟩,
     ⟨(some 91), .faddr 1 (.tmp 90), none⟩,
     ⟨(some 92), .load 1 false (.tmp 91), none⟩,
     ⟨(some 93), .qcall 74 [(.tmp 88), (.tmp 92)], none⟩,
     ⟨(some 84), .mv (.tmp 93), none⟩,
     ⟨(some 94), .ext (.tmp 84) 0, none⟩,
     ⟨(some 95), .ext (.tmp 84) 1, none⟩,
     ⟨(some 4), .mv (.tmp 94), none⟩,
     ⟨(some 5), .mv (.tmp 95), none⟩] [5])
 (.seq (.reg [
     ⟨(some 96), .mv (.tmp 5), none⟩,
     ⟨(some 2), .mv (.tmp 96), none⟩] [2])
 (.ret)))))
theorem s_spec_l05Ok : stripF Tryz.prog 41 [[0], [0, 27], [2], [0, 3], [0, 3], [0, 3, 34], [0, 3, 83], [2], [0, 3], [5], [2]] = some (c_spec_l05Ok, [.tmp 2], 97) := by kernel_rfl
abbrev f_impl_ValidGroup : Nat := 46
def c_impl_ValidGroup : SC :=
 .seq (.reg [
     ⟨(some 1), .box 33 (.tmp 0), none⟩,
     ⟨(some 2), .mv (.const (.bool false)), none⟩] [1])
 (.seq (.seq (.reg [
     ⟨(some 7), .faddr 0 (.tmp 1), none⟩,
     ⟨(some 8), .load 1 false (.tmp 7), none⟩,
     ⟨(some 9), .call 59 [(.tmp 8), (.const (.int .i64 1)), (.const (.int .i64 32))], none⟩,
     ⟨(some 10), .un .not (.tmp 9), none⟩,
     ⟨(some 11), .mv (.tmp 10), none⟩,
     ⟨(some 12), .faddr 1 (.tmp 1), (some (11, false))⟩,
     ⟨(some 13), .load 1 false (.tmp 12), (some (11, false))⟩,
     ⟨(some 14), .len (.tmp 13), (some (11, false))⟩,
     ⟨(some 15), .bin .lss (.tmp 14) (.const (.int .i64 1)), (some (11, false))⟩,
     ⟨(some 16), .pick (.tmp 11) (.const (.bool true)) (.tmp 15), none⟩,
     ⟨(some 17), .mv (.tmp 16), none⟩,
     ⟨(some 18), .faddr 1 (.tmp 1), (some (17, false))⟩,
     ⟨(some 19), .load 1 false (.tmp 18), (some (17, false))⟩,
     ⟨(some 20), .len (.tmp 19), (some (17, false))⟩,
     ⟨(some 21), .bin .gtr (.tmp 20) (.const (.int .i64 720)), (some (17, false))⟩,
     ⟨(some 22), .pick (.tmp 17) (.const (.bool true)) (.tmp 21), none⟩,
     ⟨(some 23), .mv (.tmp 22), none⟩,
     ⟨(some 24), .faddr 0 (.tmp 1), (some (23, false))⟩,
     ⟨(some 25), .load 1 false (.tmp 24), (some (23, false))⟩,
     ⟨(some 26), .faddr 1 (.tmp 1), (some (23, false))⟩,
     ⟨(some 27), .load 1 false (.tmp 26), (some (23, false))⟩,
     ⟨(some 28), .call 80 [(.tmp 25), (.tmp 27)], (some (23, false))⟩,
     ⟨(some 29), .un .not (.tmp 28), (some (23, false))⟩,
     ⟨(some 30), .pick (.tmp 23) (.const (.bool true)) (.tmp 29), none⟩] [1, 30])
 (.cond (.tmp 30)
  (.seq (.reg [
      ⟨(some 2), .mv (.const (.bool false)), none⟩] [2])
  (.ret))
  (.skip)))
 (.seq (.seq (.reg [
     ⟨(some 3), .mv (.const (.int .i64 1)), none⟩] [1, 3])
 (.block 0 (.loop [1, 3]
   (.seq (.seq (.reg [
       ⟨(some 31), .mv (.tmp 3), none⟩,
       ⟨(some 32), .faddr 1 (.tmp 1), none⟩,
       ⟨(some 33), .load 1 false (.tmp 32), none⟩,
       ⟨(some 34), .len (.tmp 33), none⟩,
       ⟨(some 35), .bin .lss (.tmp 31) (.tmp 34), none⟩] [1, 3, 35])
   (.cond (.tmp 35)
    (.skip)
    (.exit 0)))
   (.seq (.block 1 (.seq (.reg [
        ⟨(some 38), .faddr 1 (.tmp 1), none⟩,
        ⟨(some 39), .load 1 false (.tmp 38), none⟩,
        ⟨(some 40), .mv (.tmp 3), none⟩,
        ⟨(some 41), .bin .sub (.tmp 40) (.const (.int .i64 1)), none⟩,
        ⟨(some 42), .iaddr 1 (.tmp 39) (.tmp 41), none⟩,
        ⟨(some 43), .load 1 false (.tmp 42), none⟩,
        ⟨(some 44), .faddr 1 (.tmp 1), none⟩,
        ⟨(some 45), .load 1 false (.tmp 44), none⟩,
        ⟨(some 46), .mv (.tmp 3), none⟩,
        ⟨(some 47), .iaddr 1 (.tmp 45) (.tmp 46), none⟩,
        ⟨(some 48), .load 1 false (.tmp 47), none⟩,
        ⟨(some 49), .qcall 79 [(.tmp 43), (.tmp 48)], none⟩,
        ⟨(some 50), .bin .geq (.tmp 49) (.const (.int .i64 0)), none⟩] [1, 3, 50])
    (.cond (.tmp 50)
     (.seq (.reg [
         ⟨(some 2), .mv (.const (.bool false)), none⟩] [2])
     (.ret))
     (.skip))))
   (.reg [
       ⟨(some 36), .mv (.tmp 3), none⟩,
       ⟨(some 37), .bin .add (.tmp 36) (.const (.int .i64 1)), none⟩,
       ⟨(some 3), .mv (.tmp 37), none⟩] [1, 3]))))))
 (.seq (.reg [
     ⟨(some 52), .faddr 0 (.tmp 1), none⟩,
     ⟨(some 53), .load 1 false (.tmp 52), none⟩,
     ⟨(some 54), .faddr 1 (.tmp 1), none⟩,
     ⟨(some 55), .load 1 false (.tmp 54), none⟩,
     ⟨(some 56), .call 81 [(.tmp 53), (.tmp 55)], none⟩,
     ⟨(some 51), .mv (.tmp 56), none⟩,
     ⟨(some 57), .ext (.tmp 51) 0, none⟩,
     ⟨(some 58), .ext (.tmp 51) 1, none⟩,
     ⟨(some 59), .ext (.tmp 51) 2, none⟩,
     ⟨(some 4), .mv (.tmp 57), none⟩,
     ⟨(some 5), .mv (.tmp 58), none⟩,
     ⟨(some 6), .mv (.tmp 59), none⟩] [1, 5, 6])
 (.seq (.reg [
     ⟨(some 60), .mv (.tmp 6), none⟩,
     ⟨(some 61), .mv (.tmp 60), none⟩,
     ⟨(some 62), .mv (.tmp 5), (some (61, true))⟩,
     ⟨(some 63), .len (.tmp 62), (some (61, true))⟩,
     ⟨(some 64), .faddr 1 (.tmp 1), (some (61, true))⟩,
     ⟨(some 65), .load 1 false (.tmp 64), (some (61, true))⟩,
     ⟨(some 66), .len (.tmp 65), (some (61, true))⟩,
     ⟨(some 67), .bin .eql (.tmp 63) (.tmp 66), (some (61, true))⟩,
     ⟨(some 68), .pick (.tmp 61) (.tmp 67) (.const (.bool false)), none⟩,
     ⟨(some 2), .mv (.tmp 68), none⟩] [2])
 (.ret)))))
theorem s_impl_ValidGroup : stripF Tryz.prog 46 [[1], [1, 30], [2], [1, 3], [1, 3], [1, 3, 35], [1, 3, 50], [2], [1, 3], [1, 5, 6], [2]] = some (c_impl_ValidGroup, [.tmp 2], 69) := by kernel_rfl
abbrev f_spec_l05Generators : Nat := 74
def c_spec_l05Generators : SC :=
 .seq (.reg [
     ⟨(some 4), .mv (.const (.slice none 0 0)), none⟩,
     ⟨(some 5), .mv (.const (.bool false)), none⟩] [0, 1])
 (.seq (.reg [
     ⟨(some 14), .bslice 51 1 0 [] [], none⟩,
     ⟨(some 6), .mv (.tmp 14), none⟩] [0, 1, 6])
 (.seq (.reg [
     ⟨(some 16), .mv (.tmp 0), none⟩,
     ⟨(some 17), .mv (.tmp 6), none⟩,
     ⟨(some 18), .call 109 [(.tmp 16), (.tmp 17), (.const (.int .i64 1))], none⟩,
     ⟨(some 15), .mv (.tmp 18), none⟩,
     ⟨(some 19), .ext (.tmp 15) 0, none⟩,
     ⟨(some 20), .ext (.tmp 15) 1, none⟩,
     ⟨(some 7), .mv (.tmp 19), none⟩,
     ⟨(some 8), .mv (.tmp 20), none⟩] [0, 1, 6, 7])
 (.seq (.seq (.reg [
     ⟨(some 9), .mv (.const (.int .i64 0)), none⟩] [0, 1, 6, 7, 9])
 (.block 0 (.loop [0, 1, 6, 7, 9]
   (.seq (.seq (.reg [
       ⟨(some 21), .mv (.tmp 9), none⟩,
       ⟨(some 22), .mv (.tmp 1), none⟩,
       ⟨(some 23), .len (.tmp 22), none⟩,
       ⟨(some 24), .bin .lss (.tmp 21) (.tmp 23), none⟩] [0, 1, 6, 7, 9, 24])
   (.cond (.tmp 24)
    (.skip)
    (.exit 0)))
   (.seq (.block 1 (.seq (.reg [
        ⟨(some 28), .mv (.tmp 7), none⟩,
        ⟨(some 29), .mv (.tmp 1), none⟩,
        ⟨(some 30), .mv (.tmp 9), none⟩,
        ⟨(some 31), .iaddr 1 (.tmp 29) (.tmp 30), none⟩,
        ⟨(some 32), .load 1 false (.tmp 31), none⟩,
        ⟨(some 33), .call 110 [(.tmp 28), (.tmp 32)], none⟩,
        ⟨(some 27), .mv (.tmp 33), none⟩,
        ⟨(some 34), .ext (.tmp 27) 0, none⟩,
        ⟨(some 35), .ext (.tmp 27) 1, none⟩,
        ⟨(some 10), .mv (.tmp 34), none⟩,
        ⟨(some 11), .mv (.tmp 35), none⟩] [0, 1, 6, 7, 9, 11])
    (.seq (.seq (.reg [
        ⟨(some 36), .mv (.tmp 11), none⟩] [0, 1, 6, 7, 9, 36])
    (.cond (.tmp 36)
     (.exit 1)
     (.skip)))
    (.seq (.reg [
        ⟨(some 37), .mv (.tmp 6), none⟩,
        ⟨(some 38), .mv (.tmp 1), none⟩,
        ⟨(some 39), .mv (.tmp 9), none⟩,
        ⟨(some 40), .iaddr 1 (.tmp 38) (.tmp 39), none⟩,
        ⟨(some 41), .load 1 false (.tmp 40), none⟩,
        ⟨(some 42), .call 96 [(.tmp 41)], none⟩,
        ⟨(some 43), .bslice 51 1 1 [(.slice none 0 0)] [(0, (.tmp 42))], none⟩,
        ⟨(some 44), .app 51 1 24 (.tmp 37) (.tmp 43), none⟩,
        ⟨(some 6), .mv (.tmp 44), none⟩] [0, 1, 6, 9])
    (.seq (.reg [
        ⟨(some 46), .mv (.tmp 0), none⟩,
        ⟨(some 47), .mv (.tmp 6), none⟩,
        ⟨(some 48), .mv (.tmp 1), none⟩,
        ⟨(some 49), .len (.tmp 48), none⟩,
        ⟨(some 50), .call 109 [(.tmp 46), (.tmp 47), (.tmp 49)], none⟩,
        ⟨(some 45), .mv (.tmp 50), none⟩,
        ⟨(some 51), .ext (.tmp 45) 0, none⟩,
        ⟨(some 52), .ext (.tmp 45) 1, none⟩,
        ⟨(some 12), .mv (.tmp 51), none⟩,
        ⟨(some 13), .mv (.tmp 52), none⟩] [0, 1, 6, 9, 12, 13])
    (.seq (.seq (.reg [
        ⟨(some 53), .mv (.tmp 13), none⟩,
        ⟨(some 54), .un .not (.tmp 53), none⟩] [0, 1, 6, 9, 12, 54])
    (.cond (.tmp 54)
     (.seq (.reg [
         ⟨(some 4), .mv (.const (.slice none 0 0)), none⟩,
         ⟨(some 5), .mv (.const (.bool false)), none⟩] [4, 5])
     (.ret))
     (.skip)))
    (.reg [
        ⟨(some 55), .mv (.tmp 12), none⟩,
        ⟨(some 7), .mv (.tmp 55), none⟩] [0, 1, 6, 7, 9])))))))
   (.reg [
       ⟨(some 25), .mv (.tmp 9), none⟩,
       ⟨(some 26), .bin .add (.tmp 25) (.const (.int .i64 1)), none⟩,
       ⟨(some 9), .mv (.tmp 26), none⟩] [0, 1, 6, 7, 9]))))))
 (.seq (.reg [
     ⟨(some 56), .mv (.tmp 6), none⟩,
     ⟨(some 57), .mv (.tmp 7), none⟩,
     ⟨(some 58), .mv (.tmp 1), none⟩,
     ⟨(some 59), .call 76 [(.tmp 57), (.tmp 58)], none⟩,
     ⟨(some 4), .mv (.tmp 56), none⟩,
     ⟨(some 5), .mv (.tmp 59), none⟩] [4, 5])
 (.ret)))))
theorem s_spec_l05Generators : stripF Tryz.prog 74 [[0, 1], [0, 1, 6], [0, 1, 6, 7], [0, 1, 6, 7, 9], [0, 1, 6, 7, 9], [0, 1, 6, 7, 9, 24], [0, 1, 6, 7, 9, 11], [0, 1, 6, 7, 9, 36], [0, 1, 6, 9], [0, 1, 6, 9, 12, 13], [0, 1, 6, 9, 12, 54], [4, 5], [0, 1, 6, 7, 9], [0, 1, 6, 7, 9], [4, 5]] = some (c_spec_l05Generators, [.tmp 4, .tmp 5], 60) := by kernel_rfl
abbrev f_impl_chosen : Nat := 81
def c_impl_chosen : SC :=
 .seq (.reg [
     ⟨(some 4), .mv (.const (.slice none 0 0)), none⟩,
     ⟨(some 5), .mv (.const (.slice none 0 0)), none⟩,
     ⟨(some 6), .mv (.const (.bool false)), none⟩] [0, 1])
 (.seq (.reg [
     ⟨(some 7), .mv (.const (.slice none 0 0)), none⟩] [0, 1, 7])
 (.seq (.reg [
     ⟨(some 15), .mv (.tmp 0), none⟩,
     ⟨(some 16), .call 119 [(.tmp 15), (.const (.slice none 0 0))], none⟩,
     ⟨(some 14), .mv (.tmp 16), none⟩,
     ⟨(some 17), .ext (.tmp 14) 0, none⟩,
     ⟨(some 18), .ext (.tmp 14) 1, none⟩,
     ⟨(some 8), .mv (.tmp 17), none⟩,
     ⟨(some 9), .mv (.tmp 18), none⟩] [0, 1, 7, 8, 9])
 (.seq (.seq (.reg [
     ⟨(some 19), .mv (.tmp 1), none⟩,
     ⟨(some 20), .len (.tmp 19), none⟩,
     ⟨(some 21), .mv (.const (.int .i64 0)), none⟩] [0, 7, 8, 9, 19, 20, 21])
 (.block 0 (.loop [0, 7, 8, 9, 19, 20, 21]
   (.seq (.reg [
       ⟨(some 22), .bin .lss (.tmp 21) (.tmp 20), none⟩] [0, 7, 8, 9, 19, 20, 21, 22])
   (.seq (.cond (.tmp 22)
    (.skip)
    (.exit 0))
   (.seq (.block 1 (.seq (.reg [
        ⟨(some 23), .iaddr 1 (.tmp 19) (.tmp 21), none⟩,
        ⟨(some 24), .load 1 false (.tmp 23), none⟩,
        ⟨(some 11), .mv (.tmp 24), none⟩] [0, 7, 8, 9, 11, 19, 20, 21])
    (.seq (.seq (.reg [
        ⟨(some 26), .mv (.tmp 8), none⟩,
        ⟨(some 27), .mv (.tmp 11), none⟩,
        ⟨(some 28), .call 120 [(.tmp 26), (.tmp 27), (.func 79)], none⟩,
        ⟨(some 25), .mv (.tmp 28), none⟩,
        ⟨(some 29), .ext (.tmp 25) 0, none⟩,
        ⟨(some 30), .ext (.tmp 25) 1, none⟩,
        ⟨(some 12), .mv (.tmp 29), none⟩,
        ⟨(some 13), .mv (.tmp 30), none⟩] [0, 7, 8, 9, 11, 13, 19, 20, 21])
    (.seq (.reg [
        ⟨(some 31), .mv (.tmp 13), none⟩,
        ⟨(some 32), .mv (.tmp 31), none⟩,
        ⟨(some 33), .mv (.tmp 9), (some (32, false))⟩,
        ⟨(some 34), .un .not (.tmp 33), (some (32, false))⟩,
        ⟨(some 35), .pick (.tmp 32) (.const (.bool true)) (.tmp 34), none⟩] [0, 7, 8, 9, 11, 19, 20, 21, 35])
    (.cond (.tmp 35)
     (.exit 1)
     (.skip))))
    (.seq (.reg [
        ⟨(some 36), .mv (.tmp 7), none⟩,
        ⟨(some 37), .mv (.tmp 11), none⟩,
        ⟨(some 38), .bslice 51 1 1 [(.slice none 0 0)] [(0, (.tmp 37))], none⟩,
        ⟨(some 39), .app 51 1 24 (.tmp 36) (.tmp 38), none⟩,
        ⟨(some 7), .mv (.tmp 39), none⟩] [0, 7, 19, 20, 21])
    (.reg [
        ⟨(some 41), .mv (.tmp 0), none⟩,
        ⟨(some 42), .mv (.tmp 7), none⟩,
        ⟨(some 43), .call 119 [(.tmp 41), (.tmp 42)], none⟩,
        ⟨(some 40), .mv (.tmp 43), none⟩,
        ⟨(some 44), .ext (.tmp 40) 0, none⟩,
        ⟨(some 45), .ext (.tmp 40) 1, none⟩,
        ⟨(some 8), .mv (.tmp 44), none⟩,
        ⟨(some 9), .mv (.tmp 45), none⟩] [0, 7, 8, 9, 19, 20, 21])))))
   (.reg [
       ⟨(some 46), .bin .add (.tmp 21) (.const (.int .i64 1)), none⟩,
       ⟨(some 21), .mv (.tmp 46), none⟩] [0, 7, 8, 9, 19, 20, 21])))))))
 (.seq (.reg [
     ⟨(some 47), .mv (.tmp 7), none⟩,
     ⟨(some 48), .mv (.tmp 8), none⟩,
     ⟨(some 49), .mv (.tmp 9), none⟩,
     ⟨(some 4), .mv (.tmp 47), none⟩,
     ⟨(some 5), .mv (.tmp 48), none⟩,
     ⟨(some 6), .mv (.tmp 49), none⟩] [4, 5, 6])
 (.ret)))))
theorem s_impl_chosen : stripF Tryz.prog 81 [[0, 1], [0, 1, 7], [0, 1, 7, 8, 9], [0, 7, 8, 9, 19, 20, 21], [0, 7, 8, 9, 19, 20, 21], [0, 7, 8, 9, 19, 20, 21, 22], [0, 7, 8, 9, 11, 19, 20, 21], [0, 7, 8, 9, 11, 13, 19, 20, 21], [0, 7, 8, 9, 11, 19, 20, 21, 35], [0, 7, 19, 20, 21], [0, 7, 8, 9, 19, 20, 21], [0, 7, 8, 9, 19, 20, 21], [4, 5, 6]] = some (c_impl_chosen, [.tmp 4, .tmp 5, .tmp 6], 50) := by kernel_rfl
abbrev f_spec_l00Own : Nat := 96
def c_spec_l00Own : SC :=
 .seq (.reg [
     ⟨(some 2), .mv (.const (.slice none 0 0)), none⟩] [0])
 (.seq (.reg [
     ⟨(some 3), .bslice 2 1 0 [] [], none⟩,
     ⟨(some 4), .mv (.tmp 0), none⟩,
     ⟨(some 5), .app 2 1 8 (.tmp 3) (.tmp 4), none⟩,
     ⟨(some 2), .mv (.tmp 5), none⟩] [2])
 (.ret))
theorem s_spec_l00Own : stripF Tryz.prog 96 [[0], [2]] = some (c_spec_l00Own, [.tmp 2], 6) := by kernel_rfl
abbrev f_spec_l05Close : Nat := 109
def c_spec_l05Close : SC :=
 .seq (.reg [
     ⟨(some 6), .mv (.const (.slice none 0 0)), none⟩,
     ⟨(some 7), .mv (.const (.bool false)), none⟩] [0, 1, 2])
 (.seq (.reg [
     ⟨(some 16), .mv (.tmp 0), none⟩,
     ⟨(some 17), .call 145 [(.tmp 16)], none⟩,
     ⟨(some 8), .mv (.tmp 17), none⟩] [1, 2, 8])
 (.seq (.reg [
     ⟨(some 18), .mv (.tmp 8), none⟩,
     ⟨(some 19), .bslice 51 1 1 [(.slice none 0 0)] [(0, (.tmp 18))], none⟩,
     ⟨(some 9), .mv (.tmp 19), none⟩] [1, 2, 8, 9])
 (.seq (.reg [
     ⟨(some 20), .mv (.tmp 8), none⟩,
     ⟨(some 21), .bslice 51 1 1 [(.slice none 0 0)] [(0, (.tmp 20))], none⟩,
     ⟨(some 10), .mv (.tmp 21), none⟩] [1, 2, 9, 10])
 (.seq (.seq (.reg [
     ⟨(some 11), .mv (.const (.int .i64 0)), none⟩] [1, 2, 9, 10, 11])
 (.block 0 (.loop [1, 2, 9, 10, 11]
   (.seq (.seq (.reg [
       ⟨(some 22), .mv (.tmp 11), none⟩,
       ⟨(some 23), .mv (.tmp 10), none⟩,
       ⟨(some 24), .len (.tmp 23), none⟩,
       ⟨(some 25), .bin .lss (.tmp 22) (.tmp 24), none⟩] [1, 2, 9, 10, 11, 25])
   (.cond (.tmp 25)
    (.skip)
    (.exit 0)))
   (.seq (.block 1 (.seq (.reg [
        ⟨(some 12), .mv (.const (.int .i64 0)), none⟩] [1, 2, 9, 10, 11, 12])
    (.block 2 (.loop [1, 2, 9, 10, 11, 12]
      (.seq (.seq (.reg [
          ⟨(some 28), .mv (.tmp 12), none⟩,
          ⟨(some 29), .mv (.tmp 1), none⟩,
          ⟨(some 30), .len (.tmp 29), none⟩,
          ⟨(some 31), .bin .lss (.tmp 28) (.tmp 30), none⟩] [1, 2, 9, 10, 11, 12, 31])
      (.cond (.tmp 31)
       (.skip)
       (.exit 2)))
      (.seq (.block 3 (.seq (.reg [
           ⟨(some 34), .mv (.tmp 10), none⟩,
           ⟨(some 35), .mv (.tmp 11), none⟩,
           ⟨(some 36), .iaddr 1 (.tmp 34) (.tmp 35), none⟩,
           ⟨(some 37), .load 1 false (.tmp 36), none⟩,
           ⟨(some 38), .mv (.tmp 1), none⟩,
           ⟨(some 39), .mv (.tmp 12), none⟩,
           ⟨(some 40), .iaddr 1 (.tmp 38) (.tmp 39), none⟩,
           ⟨(some 41), .load 1 false (.tmp 40), none⟩,
           ⟨(some 42), .qcall 146 [(.tmp 37), (.tmp 41)], none⟩,
           ⟨(some 13), .mv (.tmp 42), none⟩] [1, 2, 9, 10, 11, 12, 13])
       (.seq (.reg [
           ⟨(some 44), .mv (.tmp 9), none⟩,
           ⟨(some 45), .mv (.tmp 13), none⟩,
           ⟨(some 46), .call 110 [(.tmp 44), (.tmp 45)], none⟩,
           ⟨(some 43), .mv (.tmp 46), none⟩,
           ⟨(some 47), .ext (.tmp 43) 0, none⟩,
           ⟨(some 48), .ext (.tmp 43) 1, none⟩,
           ⟨(some 14), .mv (.tmp 47), none⟩,
           ⟨(some 15), .mv (.tmp 48), none⟩] [1, 2, 9, 10, 11, 12, 13, 14, 15])
       (.seq (.seq (.reg [
           ⟨(some 49), .mv (.tmp 15), none⟩] [1, 2, 9, 10, 11, 12, 13, 14, 49])
       (.cond (.tmp 49)
        (.exit 3)
        (.skip)))
       (.seq (.seq (.reg [
           ⟨(some 50), .mv (.tmp 9), none⟩,
           ⟨(some 51), .len (.tmp 50), none⟩,
           ⟨(some 52), .mv (.tmp 2), none⟩,
           ⟨(some 53), .bin .eql (.tmp 51) (.tmp 52), none⟩] [1, 2, 9, 10, 11, 12, 13, 14, 53])
       (.cond (.tmp 53)
        (.seq (.reg [
            ⟨(some 6), .mv (.const (.slice none 0 0)), none⟩,
            ⟨(some 7), .mv (.const (.bool false)), none⟩] [6, 7])
        (.ret))
        (.skip)))
       (.seq (.reg [
           ⟨(some 54), .mv (.tmp 9), none⟩,
           ⟨(some 55), .mv (.tmp 14), none⟩,
           ⟨(some 56), .mv (.tmp 13), none⟩,
           ⟨(some 57), .call 147 [(.tmp 54), (.tmp 55), (.tmp 56)], none⟩,
           ⟨(some 9), .mv (.tmp 57), none⟩] [1, 2, 9, 10, 11, 12, 13])
       (.reg [
           ⟨(some 58), .mv (.tmp 10), none⟩,
           ⟨(some 59), .mv (.tmp 13), none⟩,
           ⟨(some 60), .bslice 51 1 1 [(.slice none 0 0)] [(0, (.tmp 59))], none⟩,
           ⟨(some 61), .app 51 1 24 (.tmp 58) (.tmp 60), none⟩,
           ⟨(some 10), .mv (.tmp 61), none⟩] [1, 2, 9, 10, 11, 12])))))))
      (.reg [
          ⟨(some 32), .mv (.tmp 12), none⟩,
          ⟨(some 33), .bin .add (.tmp 32) (.const (.int .i64 1)), none⟩,
          ⟨(some 12), .mv (.tmp 33), none⟩] [1, 2, 9, 10, 11, 12])))))))
   (.reg [
       ⟨(some 26), .mv (.tmp 11), none⟩,
       ⟨(some 27), .bin .add (.tmp 26) (.const (.int .i64 1)), none⟩,
       ⟨(some 11), .mv (.tmp 27), none⟩] [1, 2, 9, 10, 11]))))))
 (.seq (.reg [
     ⟨(some 62), .mv (.tmp 9), none⟩,
     ⟨(some 6), .mv (.tmp 62), none⟩,
     ⟨(some 7), .mv (.const (.bool true)), none⟩] [6, 7])
 (.ret))))))
theorem s_spec_l05Close : stripF Tryz.prog 109 [[0, 1, 2], [1, 2, 8], [1, 2, 8, 9], [1, 2, 9, 10], [1, 2, 9, 10, 11], [1, 2, 9, 10, 11], [1, 2, 9, 10, 11, 25], [1, 2, 9, 10, 11, 12], [1, 2, 9, 10, 11, 12], [1, 2, 9, 10, 11, 12, 31], [1, 2, 9, 10, 11, 12, 13], [1, 2, 9, 10, 11, 12, 13, 14, 15], [1, 2, 9, 10, 11, 12, 13, 14, 49], [1, 2, 9, 10, 11, 12, 13, 14, 53], [6, 7], [1, 2, 9, 10, 11, 12, 13], [1, 2, 9, 10, 11, 12], [1, 2, 9, 10, 11, 12], [1, 2, 9, 10, 11], [6, 7]] = some (c_spec_l05Close, [.tmp 6, .tmp 7], 63) := by kernel_rfl
abbrev f_spec_l05Find : Nat := 110
def c_spec_l05Find : SC :=
 .seq (.reg [
     ⟨(some 4), .mv (.const (.int .i64 0)), none⟩,
     ⟨(some 5), .mv (.const (.bool false)), none⟩] [0, 1])
 (.seq (.reg [
     ⟨(some 6), .mv (.const (.int .i64 0)), none⟩] [0, 1, 6])
 (.seq (.reg [
     ⟨(some 10), .mv (.tmp 0), none⟩,
     ⟨(some 11), .len (.tmp 10), none⟩,
     ⟨(some 7), .mv (.tmp 11), none⟩] [0, 1, 6, 7])
 (.seq (.block 0 (.loop [0, 1, 6, 7]
   (.seq (.seq (.reg [
       ⟨(some 12), .mv (.tmp 6), none⟩,
       ⟨(some 13), .mv (.tmp 7), none⟩,
       ⟨(some 14), .bin .lss (.tmp 12) (.tmp 13), none⟩] [0, 1, 6, 7, 14])
   (.cond (.tmp 14)
    (.skip)
    (.exit 0)))
   (.block 1 (.seq (.reg [
        ⟨(some 15), .mv (.tmp 6), none⟩,
        ⟨(some 16), .mv (.tmp 7), none⟩,
        ⟨(some 17), .bin .add (.tmp 15) (.tmp 16), none⟩,
        ⟨(some 18), .bin .quo (.tmp 17) (.const (.int .i64 2)), none⟩,
        ⟨(some 8), .mv (.tmp 18), none⟩] [0, 1, 6, 7, 8])
    (.seq (.reg [
        ⟨(some 19), .mv (.tmp 0), none⟩,
        ⟨(some 20), .mv (.tmp 8), none⟩,
        ⟨(some 21), .iaddr 1 (.tmp 19) (.tmp 20), none⟩,
        ⟨(some 22), .load 1 false (.tmp 21), none⟩,
        ⟨(some 23), .mv (.tmp 1), none⟩,
        ⟨(some 24), .call 72 [(.tmp 22), (.tmp 23)], none⟩,
        ⟨(some 9), .mv (.tmp 24), none⟩] [0, 1, 6, 7, 8, 9])
    (.seq (.seq (.reg [
        ⟨(some 25), .mv (.tmp 9), none⟩,
        ⟨(some 26), .bin .eql (.tmp 25) (.const (.int .i64 0)), none⟩] [0, 1, 6, 7, 8, 9, 26])
    (.cond (.tmp 26)
     (.seq (.reg [
         ⟨(some 27), .mv (.tmp 8), none⟩,
         ⟨(some 4), .mv (.tmp 27), none⟩,
         ⟨(some 5), .mv (.const (.bool true)), none⟩] [4, 5])
     (.ret))
     (.skip)))
    (.seq (.reg [
        ⟨(some 28), .mv (.tmp 9), none⟩,
        ⟨(some 29), .bin .lss (.tmp 28) (.const (.int .i64 0)), none⟩] [0, 1, 6, 7, 8, 29])
    (.cond (.tmp 29)
     (.reg [
         ⟨(some 30), .mv (.tmp 8), none⟩,
         ⟨(some 31), .bin .add (.tmp 30) (.const (.int .i64 1)), none⟩,
         ⟨(some 6), .mv (.tmp 31), none⟩] [0, 1, 6, 7])
     (.reg [
         ⟨(some 32), .mv (.tmp 8), none⟩,
         ⟨(some 7), .mv (.tmp 32), none⟩] [0, 1, 6, 7]))))))))))
 (.seq (.reg [
     ⟨(some 33), .mv (.tmp 6), none⟩,
     ⟨(some 4), .mv (.tmp 33), none⟩,
     ⟨(some 5), .mv (.const (.bool false)), none⟩] [4, 5])
 (.ret)))))
theorem s_spec_l05Find : stripF Tryz.prog 110 [[0, 1], [0, 1, 6], [0, 1, 6, 7], [0, 1, 6, 7], [0, 1, 6, 7, 14], [0, 1, 6, 7, 8], [0, 1, 6, 7, 8, 9], [0, 1, 6, 7, 8, 9, 26], [4, 5], [0, 1, 6, 7, 8, 29], [0, 1, 6, 7], [0, 1, 6, 7], [4, 5]] = some (c_spec_l05Find, [.tmp 4, .tmp 5], 34) := by kernel_rfl
abbrev f_slices_BinarySearchFunc_LLint64_Lint64_Lint64 : Nat := 120
def c_slices_BinarySearchFunc_LLint64_Lint64_Lint64 : SC :=
 .seq (.reg [
     ⟨(some 6), .mv (.const (.int .i64 0)), none⟩,
     ⟨(some 7), .mv (.const (.bool false)), none⟩] [0, 1, 2])
 (.seq (.reg [
     ⟨(some 12), .mv (.tmp 0), none⟩,
     ⟨(some 13), .len (.tmp 12), none⟩,
     ⟨(some 8), .mv (.tmp 13), none⟩] [0, 1, 2, 8])
 (.seq (.reg [
     ⟨(some 14), .mv (.tmp 8), none⟩,
     ⟨(some 9), .mv (.const (.int .i64 0)), none⟩,
     ⟨(some 10), .mv (.tmp 14), none⟩] [0, 1, 2, 8, 9, 10])
 (.seq (.block 0 (.loop [0, 1, 2, 8, 9, 10]
   (.seq (.seq (.reg [
       ⟨(some 15), .mv (.tmp 9), none⟩,
       ⟨(some 16), .mv (.tmp 10), none⟩,
       ⟨(some 17), .bin .lss (.tmp 15) (.tmp 16), none⟩] [0, 1, 2, 8, 9, 10, 17])
   (.cond (.tmp 17)
    (.skip)
    (.exit 0)))
   (.block 1 (.seq (.reg [
        ⟨(some 18), .mv (.tmp 9), none⟩,
        ⟨(some 19), .mv (.tmp 10), none⟩,
        ⟨(some 20), .bin .add (.tmp 18) (.tmp 19), none⟩,
        ⟨(some 21), .conv .u64 (.tmp 20), none⟩,
        ⟨(some 22), .bin .shr (.tmp 21) (.const (.int .u64 1)), none⟩,
        ⟨(some 23), .conv .i64 (.tmp 22), none⟩,
        ⟨(some 11), .mv (.tmp 23), none⟩] [0, 1, 2, 8, 9, 10, 11])
    (.seq (.reg [
        ⟨(some 24), .mv (.tmp 2), none⟩,
        ⟨(some 25), .mv (.tmp 0), none⟩,
        ⟨(some 26), .mv (.tmp 11), none⟩,
        ⟨(some 27), .iaddr 1 (.tmp 25) (.tmp 26), none⟩,
        ⟨(some 28), .load 1 false (.tmp 27), none⟩,
        ⟨(some 29), .mv (.tmp 1), none⟩,
        ⟨(some 30), .callv (.tmp 24) [(.tmp 28), (.tmp 29)], none⟩,
        ⟨(some 31), .bin .lss (.tmp 30) (.const (.int .i64 0)), none⟩] [0, 1, 2, 8, 9, 10, 11, 31])
    (.cond (.tmp 31)
     (.reg [
         ⟨(some 32), .mv (.tmp 11), none⟩,
         ⟨(some 33), .bin .add (.tmp 32) (.const (.int .i64 1)), none⟩,
         ⟨(some 9), .mv (.tmp 33), none⟩] [0, 1, 2, 8, 9, 10])
     (.reg [
         ⟨(some 34), .mv (.tmp 11), none⟩,
         ⟨(some 10), .mv (.tmp 34), none⟩] [0, 1, 2, 8, 9, 10]))))))))
 (.seq (.reg [
     ⟨(some 35), .mv (.tmp 9), none⟩,
     ⟨(some 36), .mv (.tmp 9), none⟩,
     ⟨(some 37), .mv (.tmp 8), none⟩,
     ⟨(some 38), .bin .lss (.tmp 36) (.tmp 37), none⟩,
     ⟨(some 39), .mv (.tmp 38), none⟩,
     ⟨(some 40), .mv (.tmp 2), (some (39, true))⟩,
     ⟨(some 41), .mv (.tmp 0), (some (39, true))⟩,
     ⟨(some 42), .mv (.tmp 9), (some (39, true))⟩,
     ⟨(some 43), .iaddr 1 (.tmp 41) (.tmp 42), (some (39, true))⟩,
     ⟨(some 44), .load 1 false (.tmp 43), (some (39, true))⟩,
     ⟨(some 45), .mv (.tmp 1), (some (39, true))⟩,
     ⟨(some 46), .callv (.tmp 40) [(.tmp 44), (.tmp 45)], (some (39, true))⟩,
     ⟨(some 47), .bin .eql (.tmp 46) (.const (.int .i64 0)), (some (39, true))⟩,
     ⟨(some 48), .pick (.tmp 39) (.tmp 47) (.const (.bool false)), none⟩,
     ⟨(some 6), .mv (.tmp 35), none⟩,
     ⟨(some 7), .mv (.tmp 48), none⟩] [6, 7])
 (.ret)))))
theorem s_slices_BinarySearchFunc_LLint64_Lint64_Lint64 : stripF Tryz.prog 120 [[0, 1, 2], [0, 1, 2, 8], [0, 1, 2, 8, 9, 10], [0, 1, 2, 8, 9, 10], [0, 1, 2, 8, 9, 10, 17], [0, 1, 2, 8, 9, 10, 11], [0, 1, 2, 8, 9, 10, 11, 31], [0, 1, 2, 8, 9, 10], [0, 1, 2, 8, 9, 10], [6, 7]] = some (c_slices_BinarySearchFunc_LLint64_Lint64_Lint64, [.tmp 6, .tmp 7], 49) := by kernel_rfl
abbrev f_spec_l05Put : Nat := 147
def c_spec_l05Put : SC :=
 .seq (.reg [
     ⟨(some 6), .mv (.const (.slice none 0 0)), none⟩] [0, 1, 2])
 (.seq (.reg [
     ⟨(some 8), .bslice 51 1 0 [] [], none⟩,
     ⟨(some 9), .mv (.tmp 0), none⟩,
     ⟨(some 10), .mv (.tmp 1), none⟩,
     ⟨(some 11), .slc 1 (.tmp 9) none (some (.tmp 10)), none⟩,
     ⟨(some 12), .app 51 1 24 (.tmp 8) (.tmp 11), none⟩,
     ⟨(some 7), .mv (.tmp 12), none⟩] [0, 1, 2, 7])
 (.seq (.reg [
     ⟨(some 13), .mv (.tmp 7), none⟩,
     ⟨(some 14), .mv (.tmp 2), none⟩,
     ⟨(some 15), .bslice 51 1 1 [(.slice none 0 0)] [(0, (.tmp 14))], none⟩,
     ⟨(some 16), .app 51 1 24 (.tmp 13) (.tmp 15), none⟩,
     ⟨(some 7), .mv (.tmp 16), none⟩] [0, 1, 7])
 (.seq (.reg [
     ⟨(some 17), .mv (.tmp 7), none⟩,
     ⟨(some 18), .mv (.tmp 0), none⟩,
     ⟨(some 19), .mv (.tmp 1), none⟩,
     ⟨(some 20), .slc 1 (.tmp 18) (some (.tmp 19)) none, none⟩,
     ⟨(some 21), .app 51 1 24 (.tmp 17) (.tmp 20), none⟩,
     ⟨(some 6), .mv (.tmp 21), none⟩] [6])
 (.ret))))
theorem s_spec_l05Put : stripF Tryz.prog 147 [[0, 1, 2], [0, 1, 2, 7], [0, 1, 7], [6]] = some (c_spec_l05Put, [.tmp 6], 22) := by kernel_rfl
def cntL (L : List (List Int)) (p : List Int) : Nat := (L.filter fun x => decide (cmpL x p < 0)).length
theorem cntL_le (L : List (List Int)) (p : List Int) : cntL L p ≤ L.length := List.length_filter_le _ _
theorem cntL_zero {L : List (List Int)} {p : List Int} (h : ∀ x ∈ L, ¬ cmpL x p < 0) : cntL L p = 0 := by
  unfold cntL
  rw [List.length_eq_zero_iff, List.filter_eq_nil_iff]
  intro x hx
  simpa using h x hx
theorem cntL_lt {p : List Int} : ∀ {L : List (List Int)}, Asc cmpL L → ∀ {h : Nat} (hl : h < L.length), cmpL L[h] p < 0 ↔ h < cntL L p
  | [], _, _, hl => by simp at hl
  | x :: r, ha, h, hl => by
    have ha' := List.pairwise_cons.1 ha
    by_cases hx : cmpL x p < 0
    · have e : cntL (x :: r) p = cntL r p + 1 := by unfold cntL; rw [List.filter_cons_of_pos (by simpa using hx)]; rfl
      rw [e]
      cases h with
      | zero => simp [hx]
      | succ h =>
        have := cntL_lt (p := p) (L := r) ha'.2 (h := h) (by simpa using hl)
        simp only [List.getElem_cons_succ]
        rw [this]; omega
    · have hall : ∀ y ∈ x :: r, ¬ cmpL y p < 0 := by
        intro y hy hyp
        rcases List.mem_cons.1 hy with rfl | hy
        · exact hx hyp
        · exact hx (cmpL_trans _ _ _ (ha'.1 y hy) hyp)
      rw [cntL_zero hall]
      constructor
      · intro hh; exact absurd hh (hall _ (List.getElem_mem _))
      · omega
theorem cntL_mem {L : List (List Int)} {p : List Int} (ha : Asc cmpL L) : p ∈ L ↔ ∃ h : cntL L p < L.length, cmpL L[cntL L p] p = 0 := by
  constructor
  · intro hp
    obtain ⟨j, hj, he⟩ := List.getElem_of_mem hp
    have h1 := cntL_lt (p := p) ha hj
    rw [he] at h1
    have h0 : cmpL p p = 0 := (cmpL_eq0 p p).2 rfl
    have h2 : ¬ j < cntL L p := fun h => by have := h1.2 h; omega
    have h3 : cntL L p = j := by
      rcases Nat.lt_or_eq_of_le (Nat.le_of_not_lt h2) with h4 | h4
      · have h5 := cntL_lt (p := p) ha (h := cntL L p) (by omega)
        have h6 := List.pairwise_iff_getElem.1 ha (cntL L p) j (by omega) hj h4
        rw [he] at h6
        have := h5.1 h6
        omega
      · exact h4
    subst h3
    exact ⟨hj, by rw [he]; exact h0⟩
  · rintro ⟨h, he⟩
    rw [← (cmpL_eq0 _ _).1 he]
    exact List.getElem_mem _
def u64v (x : Int) : AV := .lit (.int .u64 x)
theorem wrap_u64 {x : Int} (h0 : 0 ≤ x) (h1 : x ≤ 9223372036854775807) : IntKind.u64.wrap x = x := by
  have e : x % (2 ^ IntKind.u64.bits : Int) = x := by
    show x % (2 ^ 64 : Int) = x
    omega
  show (if (false && decide (x % (2 ^ IntKind.u64.bits : Int) ≥ (2 ^ (IntKind.u64.bits - 1) : Int))) = true then x % (2 ^ IntKind.u64.bits : Int) - (2 ^ IntKind.u64.bits : Int) else x % (2 ^ IntKind.u64.bits : Int)) = x
  rw [Bool.false_and, if_neg (by simp), e]
theorem ConvW_u64 {x : Int} (h0 : 0 ≤ x) (h1 : x ≤ 9223372036854775807) (H : List Blk) (K : AV → List Blk → Prop) : ConvW .u64 (I x) H K = K (u64v x) H := by
  show K (.lit (.int .u64 (IntKind.u64.wrap x))) H = _
  rw [wrap_u64 h0 h1]; rfl
theorem ConvW_ui {x : Int} (H : List Blk) (K : AV → List Blk → Prop) : ConvW .i64 (u64v x) H K = K (I (w64 x)) H := (rfl)
theorem ev_u64 (x : Int) (F : Nat → AV) : ev F (.const (.int .u64 x)) = u64v x := (rfl)
theorem shr_u64 (x : Int) (H : List Blk) (K : AV → List Blk → Prop) : BinW .shr (u64v x) (u64v 1) H K = K (u64v (x.fdiv 2)) H := by
  show (0 ≤ (1 : Int) ∧ K (.lit (.int .u64 (x.fdiv (2 ^ (min (1 : Int).toNat 64))))) H) = _
  rw [show (2 : Int) ^ (min (1 : Int).toNat 64) = 2 from rfl]
  simp [u64v]
theorem compare_call : callable Tryz.prog f_slices_Compare_Lint64_int64 = true := by kernel_rfl
theorem BinarySearch_fn (L : List (List Int)) (p : List Int) (ha : Asc cmpL L) (hl : L.length ≤ 1000000) : PFn Tryz.prog f_slices_BinarySearchFunc_LLint64_Lint64_Lint64 [ilSS L, ilS p, .fn f_slices_Compare_Lint64_int64 []] (.tup [I (cntL L p), Bv (decide (p ∈ L))]) := by
  have hcl := cntL_le L p
  intro H; refine ACalls.introB s_slices_BinarySearchFunc_LLint64_Lint64_Lint64 (by simp) ?_; intro hB hA; unfold c_slices_BinarySearchFunc_LLint64_Lint64_Lint64; simp (config := { maxSteps := 1000000 }) (disch := (first | omega | (simp only [go_sem]; try omega))) only [go_sem, Nat.reduceAdd, Nat.reduceEqDiff, Nat.reduceLeDiff, Nat.reduceMul, Nat.reduceLT, reduceIte, Int.reduceToNat, w64_id, cast_succ]
  repeat (first | (with_reducible first | refine SW.seq ?_ | refine SW.block ?_ | refine SW.rowC ?_ | refine SW.skip ?_ | refine SW.exit ?_ | intro _ | refine And.intro (by omega) ?_) | simp (config := { maxSteps := 1000000 }) (disch := (first | omega | (simp only [go_sem]; try omega))) only [go_sem, Nat.reduceAdd, Nat.reduceEqDiff, Nat.reduceLeDiff, Nat.reduceMul, Nat.reduceLT, reduceIte, Int.reduceToNat, w64_id, cast_succ])
  refine SW.loopE (fun E0 H0 q E' H' => ∃ i j : Nat, i ≤ cntL L p ∧ cntL L p ≤ j ∧ j ≤ L.length ∧ q = j - i ∧ E' = aput (aput E0 9 (I i)) 10 (I j) ∧ H' = H0) L.length ⟨0, L.length, by omega, by omega, by omega, by omega, rfl, rfl⟩ ?_
  rintro q E' H' ⟨i, j, hi, hj, hjl, rfl, rfl, rfl⟩
  simp (config := { maxSteps := 1000000 }) (disch := (first | omega | (simp only [go_sem]; try omega))) only [go_sem, Nat.reduceAdd, Nat.reduceEqDiff, Nat.reduceLeDiff, Nat.reduceMul, Nat.reduceLT, reduceIte, Int.reduceToNat, w64_id, cast_succ]
  repeat (first | (with_reducible first | refine SW.seq ?_ | refine SW.block ?_ | refine SW.rowC ?_ | refine SW.skip ?_ | refine SW.exit ?_ | intro _ | refine And.intro (by omega) ?_) | simp (config := { maxSteps := 1000000 }) (disch := (first | omega | (simp only [go_sem]; try omega))) only [go_sem, Nat.reduceAdd, Nat.reduceEqDiff, Nat.reduceLeDiff, Nat.reduceMul, Nat.reduceLT, reduceIte, Int.reduceToNat, w64_id, cast_succ])
  (first | refine SW.condD rfl (fun h2 => ?_) (fun h2 => ?_) | refine SW.condN rfl (fun h2 => ?_) (fun h2 => ?_) | refine SW.condNB rfl (fun h2 => ?_) (fun h2 => ?_) | refine SW.condB rfl (fun h2 => ?_) (fun h2 => ?_))
  · have hf : ((i : Int) + (j : Int)).fdiv 2 = (((i + j) / 2 : Nat) : Int) := by
      rw [Int.fdiv_eq_ediv_of_nonneg _ (by omega)]; omega
    have hh : i ≤ (i + j) / 2 ∧ (i + j) / 2 < j := by omega
    generalize hm : (i + j) / 2 = m at *
    have hml : m < L.length := by omega
    have hgm : L.getD m [] = L[m] := by rw [List.getD_eq_getElem?_getD, List.getElem?_eq_getElem hml]; rfl
    have hlt := cntL_lt (p := p) ha hml
    rw [← hgm] at hlt
    have hcf := slicesCompare_fn (L.getD m []) p
    repeat (first | (with_reducible first | refine SW.seq ?_ | refine SW.block ?_ | refine SW.rowC ?_ | refine SW.skip ?_ | refine SW.exit ?_ | refine PFn.use (hcf) ?_ | refine PFn.useq (hcf) ?_ | intro _ | refine And.intro (by omega) ?_) | simp (config := { maxSteps := 1000000 }) (disch := (first | omega | (simp only [go_sem]; try omega))) only [go_sem, Nat.reduceAdd, Nat.reduceEqDiff, Nat.reduceLeDiff, Nat.reduceMul, Nat.reduceLT, reduceIte, Int.reduceToNat, w64_id, cast_succ, ConvW_u64, ConvW_ui, ev_u64, shr_u64, hf, compare_call])
    by_cases hlm : cmpL (L.getD m []) p < 0
    · have dd := decide_eq_true hlm
      repeat (first | (with_reducible first | refine SW.seq ?_ | refine SW.block ?_ | refine SW.rowC ?_ | refine SW.skip ?_ | refine SW.exit ?_ | intro _ | refine And.intro (by omega) ?_) | simp (config := { maxSteps := 1000000 }) (disch := (first | omega | (simp only [go_sem]; try omega))) only [go_sem, Nat.reduceAdd, Nat.reduceEqDiff, Nat.reduceLeDiff, Nat.reduceMul, Nat.reduceLT, reduceIte, Int.reduceToNat, w64_id, cast_succ, dd])
      refine SW.condT rfl ?_
      repeat (first | (with_reducible first | refine SW.seq ?_ | refine SW.block ?_ | refine SW.rowC ?_ | refine SW.skip ?_ | refine SW.exit ?_ | intro _ | refine And.intro (by omega) ?_) | simp (config := { maxSteps := 1000000 }) (disch := (first | omega | (simp only [go_sem]; try omega))) only [go_sem, Nat.reduceAdd, Nat.reduceEqDiff, Nat.reduceLeDiff, Nat.reduceMul, Nat.reduceLT, reduceIte, Int.reduceToNat, w64_id, cast_succ])
      refine SLoop.next (j - (m + 1)) (by omega) ⟨m + 1, j, hlt.1 hlm, hj, hjl, rfl, by simp [go_sem], rfl⟩
    · have dd := decide_eq_false hlm
      repeat (first | (with_reducible first | refine SW.seq ?_ | refine SW.block ?_ | refine SW.rowC ?_ | refine SW.skip ?_ | refine SW.exit ?_ | intro _ | refine And.intro (by omega) ?_) | simp (config := { maxSteps := 1000000 }) (disch := (first | omega | (simp only [go_sem]; try omega))) only [go_sem, Nat.reduceAdd, Nat.reduceEqDiff, Nat.reduceLeDiff, Nat.reduceMul, Nat.reduceLT, reduceIte, Int.reduceToNat, w64_id, cast_succ, dd])
      refine SW.condF rfl ?_
      repeat (first | (with_reducible first | refine SW.seq ?_ | refine SW.block ?_ | refine SW.rowC ?_ | refine SW.skip ?_ | refine SW.exit ?_ | intro _ | refine And.intro (by omega) ?_) | simp (config := { maxSteps := 1000000 }) (disch := (first | omega | (simp only [go_sem]; try omega))) only [go_sem, Nat.reduceAdd, Nat.reduceEqDiff, Nat.reduceLeDiff, Nat.reduceMul, Nat.reduceLT, reduceIte, Int.reduceToNat, w64_id, cast_succ])
      refine SLoop.next (m - i) (by omega) ⟨i, m, hi, by omega, by omega, rfl, by simp [go_sem], rfl⟩
  · have hij : i = j := by omega
    have hic : i = cntL L p := by omega
    have hmem := cntL_mem (p := p) ha
    subst hic
    by_cases hcn : cntL L p < L.length
    · have dd : decide (((cntL L p : Nat) : Int) < (L.length : Int)) = true := decide_eq_true (by omega)
      have hgm : L.getD (cntL L p) [] = L[cntL L p] := by rw [List.getD_eq_getElem?_getD, List.getElem?_eq_getElem hcn]; rfl
      have hcf := slicesCompare_fn (L.getD (cntL L p) []) p
      have hd : decide (cmpL (L.getD (cntL L p) []) p = 0) = decide (p ∈ L) := by
        rw [decide_eq_decide, hmem, hgm]
        exact ⟨fun h => ⟨hcn, h⟩, fun ⟨_, h⟩ => h⟩
      repeat (first | (with_reducible first | refine SW.seq ?_ | refine SW.block ?_ | refine SW.rowC ?_ | refine SW.skip ?_ | refine SW.exit ?_ | refine PFn.use (hcf) ?_ | refine PFn.useq (hcf) ?_ | intro _ | refine And.intro (by omega) ?_) | simp (config := { maxSteps := 1000000 }) (disch := (first | omega | (simp only [go_sem]; try omega))) only [go_sem, Nat.reduceAdd, Nat.reduceEqDiff, Nat.reduceLeDiff, Nat.reduceMul, Nat.reduceLT, reduceIte, Int.reduceToNat, w64_id, cast_succ, dd, compare_call])
      refine SW.ret ?_; (try simp only [go_sem]); (first | refine FunPost.one ?_ | refine FunPost.two ?_ | refine FunPost.three ?_); (try simp (config := { maxSteps := 1000000 }) (disch := (first | omega | (simp only [go_sem]; try omega))) only [go_sem, Nat.reduceAdd, Nat.reduceEqDiff, Nat.reduceLeDiff, Nat.reduceMul, Nat.reduceLT, reduceIte, Int.reduceToNat, w64_id, cast_succ]); (first | (with_reducible refine GR.drop ?_ ?_; (simp only [go_sem, and_self, and_true, true_and, implies_true, List.take_succ_cons, List.take_zero])) | refine GR.of ?_); refine ⟨?_, rfl⟩; (try with_reducible rfl)
      rw [hd]
    · have dd : decide (((cntL L p : Nat) : Int) < (L.length : Int)) = false := decide_eq_false (by omega)
      have hd : decide (p ∈ L) = false := decide_eq_false (fun h => hcn (hmem.1 h).1)
      repeat (first | (with_reducible first | refine SW.seq ?_ | refine SW.block ?_ | refine SW.rowC ?_ | refine SW.skip ?_ | refine SW.exit ?_ | intro _ | refine And.intro (by omega) ?_) | simp (config := { maxSteps := 1000000 }) (disch := (first | omega | (simp only [go_sem]; try omega))) only [go_sem, Nat.reduceAdd, Nat.reduceEqDiff, Nat.reduceLeDiff, Nat.reduceMul, Nat.reduceLT, reduceIte, Int.reduceToNat, w64_id, cast_succ, dd])
      refine SW.ret ?_; (try simp only [go_sem]); (first | refine FunPost.one ?_ | refine FunPost.two ?_ | refine FunPost.three ?_); (try simp (config := { maxSteps := 1000000 }) (disch := (first | omega | (simp only [go_sem]; try omega))) only [go_sem, Nat.reduceAdd, Nat.reduceEqDiff, Nat.reduceLeDiff, Nat.reduceMul, Nat.reduceLT, reduceIte, Int.reduceToNat, w64_id, cast_succ]); (first | (with_reducible refine GR.drop ?_ ?_; (simp only [go_sem, and_self, and_true, true_and, implies_true, List.take_succ_cons, List.take_zero])) | refine GR.of ?_); refine ⟨?_, rfl⟩; (try with_reducible rfl)
      rw [hd]
end Go.Proofs.YtkifdjjnbplghaaGreat
namespace Go.Proofs.YtkifdjjnbplghaaGreat
open Go.Av
theorem chosen_ok (H : List Blk) (n : Nat) (els : List (List Int)) (hn1 : 1 ≤ n) (hn : n ≤ 32) (hp : ∀ p ∈ els, permOk n p) (hl : els.length ≤ 720) :
    ACalls Tryz.prog f_impl_chosen [I n, ilSS els] H (fun r H' => ∃ (G A : List (List Int)) (okb : Bool), r = .tup [ilSS G, ilSS A, Bv okb] ∧ (∀ g ∈ G, g ∈ els) ∧ genL n G 720 = (if okb = true then some A else none) ∧ (okb = true → ∀ p ∈ els, p ∈ A) ∧ H' = H) := by
  have h0 := genL_some (genList_nil n) (show [idL n].length ≤ 720 by simp)
  have hc0 := fun H => closure_ok H n nilS [] hn1 hn rfl (by simp) (by simp)
  rw [h0] at hc0
  refine ACalls.introB s_impl_chosen (by simp) ?_; intro hB hA; unfold c_impl_chosen; simp (config := { maxSteps := 1000000 }) (disch := (first | omega | (simp only [go_sem]; try omega))) only [go_sem, Nat.reduceAdd, Nat.reduceEqDiff, Nat.reduceLeDiff, Nat.reduceMul, Nat.reduceLT, reduceIte, Int.reduceToNat, w64_id, cast_succ]
  repeat (first | (with_reducible first | refine SW.seq ?_ | refine SW.block ?_ | refine SW.rowC ?_ | refine SW.skip ?_ | refine SW.exit ?_ | intro _ | refine And.intro (by omega) ?_) | simp (config := { maxSteps := 1000000 }) (disch := (first | omega | (simp only [go_sem]; try omega))) only [go_sem, Nat.reduceAdd, Nat.reduceEqDiff, Nat.reduceLeDiff, Nat.reduceMul, Nat.reduceLT, reduceIte, Int.reduceToNat, w64_id, cast_succ])
  refine ACalls.fn (hc0 _) ?_
  simp only [closAV]
  repeat (first | (with_reducible first | refine SW.seq ?_ | refine SW.block ?_ | refine SW.rowC ?_ | refine SW.skip ?_ | refine SW.exit ?_ | intro _ | refine And.intro (by omega) ?_) | simp (config := { maxSteps := 1000000 }) (disch := (first | omega | (simp only [go_sem]; try omega))) only [go_sem, Nat.reduceAdd, Nat.reduceEqDiff, Nat.reduceLeDiff, Nat.reduceMul, Nat.reduceLT, reduceIte, Int.reduceToNat, w64_id, cast_succ])
  refine SW.ghost (Gh.name 7 tyLL 1 rfl) ?_
  simp (config := { maxSteps := 1000000 }) (disch := (first | omega | (simp only [go_sem]; try omega))) only [go_sem, Nat.reduceAdd, Nat.reduceEqDiff, Nat.reduceLeDiff, Nat.reduceMul, Nat.reduceLT, reduceIte, Int.reduceToNat, w64_id, cast_succ]
  refine SW.loopE (fun E0 H0 q E' H' => ∃ (pre post G A : List (List Int)) (ver : Nat) (okb : Bool), els = pre ++ post ∧ q = post.length ∧ E' = aput (aput (aput (aput E0 21 (I pre.length)) 7 (.nm H.length ver 0 G.length)) 8 (ilSS A)) 9 (Bv okb) ∧ H' = H ++ [⟨ver, tyLL, 1, G.map ilS⟩] ∧ (∀ g ∈ G, g ∈ pre) ∧ G.length ≤ pre.length ∧ genL n G 720 = (if okb = true then some A else none) ∧ (okb = true → ∀ p ∈ pre, p ∈ A) ∧ (okb = false → A = [])) els.length ⟨[], els, [], [idL n], 0, true, rfl, rfl, rfl, rfl, by simp, by simp, h0, by simp, by simp⟩ ?_
  rintro q E' H' ⟨pre, post, G, A, ver, okb, hpp, rfl, rfl, rfl, hGp, hGl, hgl, hAp, hA0⟩
  have hprl : pre.length ≤ 720 := by rw [hpp] at hl; simp at hl; omega
  simp (config := { maxSteps := 1000000 }) (disch := (first | omega | (simp only [go_sem]; try omega))) only [go_sem, Nat.reduceAdd, Nat.reduceEqDiff, Nat.reduceLeDiff, Nat.reduceMul, Nat.reduceLT, reduceIte, Int.reduceToNat, w64_id, cast_succ]
  repeat (first | (with_reducible first | refine SW.seq ?_ | refine SW.block ?_ | refine SW.rowC ?_ | refine SW.skip ?_ | refine SW.exit ?_ | intro _ | refine And.intro (by omega) ?_) | simp (config := { maxSteps := 1000000 }) (disch := (first | omega | (simp only [go_sem]; try omega))) only [go_sem, Nat.reduceAdd, Nat.reduceEqDiff, Nat.reduceLeDiff, Nat.reduceMul, Nat.reduceLT, reduceIte, Int.reduceToNat, w64_id, cast_succ])
  (first | refine SW.condD rfl (fun h2 => ?_) (fun h2 => ?_) | refine SW.condN rfl (fun h2 => ?_) (fun h2 => ?_) | refine SW.condNB rfl (fun h2 => ?_) (fun h2 => ?_) | refine SW.condB rfl (fun h2 => ?_) (fun h2 => ?_))
  · obtain ⟨p, post, rfl, hgp, -⟩ := consOf (d := []) hpp (by omega)
    have hpm : p ∈ els := by rw [hpp]; simp
    have hpo := hp p hpm
    have hAasc : Asc cmpL A ∧ A.length ≤ 720 := by
      cases okb with
      | true =>
        rw [if_pos rfl] at hgl
        exact ⟨(genL_inv hgl).1.1, (genL_inv hgl).2⟩
      | false => rw [hA0 rfl]; exact ⟨.nil, by simp⟩
    have hbs := BinarySearch_fn A p hAasc.1 (by omega)
    have hab : Bel (H.length + 1) (ilSS els) := by rw [Bel_ilSS]; trivial
    have htl : (G.map ilS).take G.length = G.map ilS := List.take_of_length_le (by simp)
    have hGB : ∀ (G : List (List Int)) (c : AV), c ∈ G.map ilS → Bel (H.length + 1) c := fun G c hc => by
      obtain ⟨x, _, rfl⟩ := List.mem_map.1 hc
      rw [Bel_ilS]; trivial
    by_cases hpA : p ∈ A ∨ okb = false
    · have hskip : (∀ g ∈ G, g ∈ pre ++ [p]) ∧ G.length ≤ (pre ++ [p]).length ∧ (okb = true → ∀ q ∈ pre ++ [p], q ∈ A) := by
        refine ⟨fun g hg => List.mem_append_left _ (hGp g hg), by simp; omega, fun ho q hq => ?_⟩
        rcases List.mem_append.1 hq with h | h
        · exact hAp ho q h
        · rw [List.mem_singleton.1 h]
          rcases hpA with h | h
          · exact h
          · rw [ho] at h; cases h
      by_cases hm : p ∈ A
      · have dd := decide_eq_true hm
        repeat (first | (with_reducible first | refine SW.seq ?_ | refine SW.block ?_ | refine SW.rowC ?_ | refine SW.skip ?_ | refine SW.exit ?_ | refine PFn.use (hbs) ?_ | refine PFn.useq (hbs) ?_ | intro _ | refine And.intro (by omega) ?_) | simp (config := { maxSteps := 1000000 }) (disch := (first | omega | (simp only [go_sem]; try omega))) only [go_sem, Nat.reduceAdd, Nat.reduceEqDiff, Nat.reduceLeDiff, Nat.reduceMul, Nat.reduceLT, reduceIte, Int.reduceToNat, w64_id, cast_succ, hgp, dd])
        refine SW.condT rfl ?_
        repeat (first | (with_reducible first | refine SW.seq ?_ | refine SW.block ?_ | refine SW.rowC ?_ | refine SW.skip ?_ | refine SW.exit ?_ | intro _ | refine And.intro (by omega) ?_) | simp (config := { maxSteps := 1000000 }) (disch := (first | omega | (simp only [go_sem]; try omega))) only [go_sem, Nat.reduceAdd, Nat.reduceEqDiff, Nat.reduceLeDiff, Nat.reduceMul, Nat.reduceLT, reduceIte, Int.reduceToNat, w64_id, cast_succ])
        refine SLoop.next post.length (by simp) ⟨pre ++ [p], post, G, A, ver, okb, by simp [hpp], rfl, by simp [go_sem], rfl, hskip.1, hskip.2.1, hgl, hskip.2.2, hA0⟩
      · have dd := decide_eq_false hm
        have ho : okb = false := hpA.resolve_left hm
        subst ho
        repeat (first | (with_reducible first | refine SW.seq ?_ | refine SW.block ?_ | refine SW.rowC ?_ | refine SW.skip ?_ | refine SW.exit ?_ | refine PFn.use (hbs) ?_ | refine PFn.useq (hbs) ?_ | intro _ | refine And.intro (by omega) ?_) | simp (config := { maxSteps := 1000000 }) (disch := (first | omega | (simp only [go_sem]; try omega))) only [go_sem, Nat.reduceAdd, Nat.reduceEqDiff, Nat.reduceLeDiff, Nat.reduceMul, Nat.reduceLT, reduceIte, Int.reduceToNat, w64_id, cast_succ, hgp, dd])
        refine SW.condT rfl ?_
        repeat (first | (with_reducible first | refine SW.seq ?_ | refine SW.block ?_ | refine SW.rowC ?_ | refine SW.skip ?_ | refine SW.exit ?_ | intro _ | refine And.intro (by omega) ?_) | simp (config := { maxSteps := 1000000 }) (disch := (first | omega | (simp only [go_sem]; try omega))) only [go_sem, Nat.reduceAdd, Nat.reduceEqDiff, Nat.reduceLeDiff, Nat.reduceMul, Nat.reduceLT, reduceIte, Int.reduceToNat, w64_id, cast_succ])
        refine SLoop.next post.length (by simp) ⟨pre ++ [p], post, G, A, ver, false, by simp [hpp], rfl, by simp [go_sem], rfl, hskip.1, hskip.2.1, hgl, hskip.2.2, hA0⟩
    · have hm : p ∉ A := fun h => hpA (.inl h)
      have ho : okb = true := by cases okb with | true => rfl | false => exact absurd (.inr rfl) hpA
      subst ho
      rw [if_pos rfl] at hgl
      have hGL := (genL_inv hgl).1
      have dd := decide_eq_false hm
      have hgo : ∀ g ∈ G ++ [p], permOk n g := fun g hg => by
        rcases List.mem_append.1 hg with h | h
        · exact hp g (by rw [hpp]; exact List.mem_append_left _ (hGp g h))
        · rw [List.mem_singleton.1 h]; exact hpo
      have hGo : ∀ g ∈ G, permOk n g := fun g hg => hgo g (List.mem_append_left _ hg)
      repeat (first | (with_reducible first | refine SW.seq ?_ | refine SW.block ?_ | refine SW.rowC ?_ | refine SW.skip ?_ | refine SW.exit ?_ | refine PFn.use (hbs) ?_ | refine PFn.useq (hbs) ?_ | intro _ | refine And.intro (by omega) ?_) | simp (config := { maxSteps := 1000000 }) (disch := (first | omega | (simp only [go_sem]; try omega))) only [go_sem, Nat.reduceAdd, Nat.reduceEqDiff, Nat.reduceLeDiff, Nat.reduceMul, Nat.reduceLT, reduceIte, Int.reduceToNat, w64_id, cast_succ, hgp, dd])
      refine SW.condF rfl ?_
      repeat (first | (with_reducible first | refine SW.seq ?_ | refine SW.block ?_ | refine SW.rowC ?_ | refine SW.skip ?_ | refine SW.exit ?_ | intro _ | refine And.intro (by omega) ?_) | simp (config := { maxSteps := 1000000 }) (disch := (first | omega | (simp only [go_sem]; try omega))) only [go_sem, Nat.reduceAdd, Nat.reduceEqDiff, Nat.reduceLeDiff, Nat.reduceMul, Nat.reduceLT, reduceIte, Int.reduceToNat, w64_id, cast_succ, htl])
      have hview : aview (H ++ [(⟨ver + 1, tyLL, 1, (G ++ [p]).map ilS⟩ : Blk), ⟨0, tyLL, 1, [ilS p]⟩]) (.nm H.length (ver + 1) 0 (G.length + 1)) = some ((G ++ [p]).length, (G ++ [p]).map ilS) := by
        have := view_nm (H := H ++ [(⟨ver + 1, tyLL, 1, (G ++ [p]).map ilS⟩ : Blk), ⟨0, tyLL, 1, [ilS p]⟩]) (r := H.length) (ver := ver + 1) (ty := tyLL) (cells := (G ++ [p]).map ilS) (n := G.length + 1) (by simp) (by simp)
        rw [this]; simp
      refine ACalls.fn (closure_ok _ n _ (G ++ [p]) hn1 hn hview hgo (by simp; omega)) ?_
      have hG' : (∀ g ∈ G ++ [p], g ∈ pre ++ [p]) ∧ (G ++ [p]).length ≤ (pre ++ [p]).length := by
        refine ⟨fun g hg => ?_, by simp; omega⟩
        rcases List.mem_append.1 hg with h | h
        · exact List.mem_append_left _ (hGp g h)
        · exact List.mem_append_right _ h
      cases hgn : genL n (G ++ [p]) 720 with
      | none =>
        simp only [closAV]
        repeat (first | (with_reducible first | refine SW.seq ?_ | refine SW.block ?_ | refine SW.rowC ?_ | refine SW.skip ?_ | refine SW.exit ?_ | intro _ | refine And.intro (by omega) ?_) | simp (config := { maxSteps := 1000000 }) (disch := (first | omega | (simp only [go_sem]; try omega))) only [go_sem, Nat.reduceAdd, Nat.reduceEqDiff, Nat.reduceLeDiff, Nat.reduceMul, Nat.reduceLT, reduceIte, Int.reduceToNat, w64_id, cast_succ])
        refine SLoop.nextT 1 post.length hB (by omega) (by simp) (by simp) ?_ ?_ ⟨pre ++ [p], post, G ++ [p], [], ver + 1, false, by simp [hpp], rfl, by simp [go_sem], rfl, hG'.1, hG'.2, hgn, by simp, by simp⟩
        · (simp only [go_sem, Nat.reduceAdd, Nat.reduceEqDiff, reduceIte, go_sem, and_self, and_true, true_and, implies_true, List.take_succ_cons, List.take_zero, and_true, true_and]; try omega)
        · simp only [List.take_succ_cons, List.take_zero, BB_cons, BB_nil, and_true]
          exact hGB _
      | some A2 =>
        have hGL2 := (genL_inv hgn).1
        simp only [closAV]
        repeat (first | (with_reducible first | refine SW.seq ?_ | refine SW.block ?_ | refine SW.rowC ?_ | refine SW.skip ?_ | refine SW.exit ?_ | intro _ | refine And.intro (by omega) ?_) | simp (config := { maxSteps := 1000000 }) (disch := (first | omega | (simp only [go_sem]; try omega))) only [go_sem, Nat.reduceAdd, Nat.reduceEqDiff, Nat.reduceLeDiff, Nat.reduceMul, Nat.reduceLT, reduceIte, Int.reduceToNat, w64_id, cast_succ])
        refine SLoop.nextT 1 post.length hB (by omega) (by simp) (by simp) ?_ ?_ ⟨pre ++ [p], post, G ++ [p], A2, ver + 1, true, by simp [hpp], rfl, by simp [go_sem], rfl, hG'.1, hG'.2, hgn, fun _ q hq => ?_, by simp⟩
        · (simp only [go_sem, Nat.reduceAdd, Nat.reduceEqDiff, reduceIte, go_sem, and_self, and_true, true_and, implies_true, List.take_succ_cons, List.take_zero, and_true, true_and]; try omega)
        · simp only [List.take_succ_cons, List.take_zero, BB_cons, BB_nil, and_true]
          exact hGB _
        · rw [hGL2.2]
          rcases List.mem_append.1 hq with h | h
          · exact Gen.mono (fun g hg => List.mem_append_left _ hg) ((hGL.2 q).1 (hAp rfl q h))
          · rw [List.mem_singleton.1 h]; exact Gen.gen hpo (by simp)
  · obtain ⟨rfl, rfl⟩ := nilOf hpp (by omega)
    repeat (first | (with_reducible first | refine SW.seq ?_ | refine SW.block ?_ | refine SW.rowC ?_ | refine SW.skip ?_ | refine SW.exit ?_ | intro _ | refine And.intro (by omega) ?_) | simp (config := { maxSteps := 1000000 }) (disch := (first | omega | (simp only [go_sem]; try omega))) only [go_sem, Nat.reduceAdd, Nat.reduceEqDiff, Nat.reduceLeDiff, Nat.reduceMul, Nat.reduceLT, reduceIte, Int.reduceToNat, w64_id, cast_succ])
    refine SW.ret ?_; (try simp only [go_sem]); (first | refine FunPost.one ?_ | refine FunPost.two ?_ | refine FunPost.three ?_); (try simp (config := { maxSteps := 1000000 }) (disch := (first | omega | (simp only [go_sem]; try omega))) only [go_sem, Nat.reduceAdd, Nat.reduceEqDiff, Nat.reduceLeDiff, Nat.reduceMul, Nat.reduceLT, reduceIte, Int.reduceToNat, w64_id, cast_succ])
    refine GR.froz (r' := .tup [ilSS G, ilSS A, Bv okb]) (.tup _ _ rfl ?_) ⟨G, A, okb, rfl, hGp, hgl, hAp, rfl⟩
    intro j c c' h1 h2
    match j with
    | 0 => simp at h1 h2; subst h1; subst h2; exact froz_rowsS (ver := ver) (ty := tyLL) (by omega) (by simp)
    | 1 => simp at h1 h2; subst h1; subst h2; exact .old _ (by rw [Bel_ilSS]; trivial)
    | 2 => simp at h1 h2; subst h1; subst h2; exact .old _ (.lit _)
    | j + 3 => simp at h1
theorem ascL_snoc {A : Type} {cf : A → A → Int} (h : TotC cf) {l : List A} {x : A} (hl : l.Pairwise fun a b => cf a b < 0) : (l ++ [x]).Pairwise (fun a b => cf a b < 0) ↔ ∀ (y : A), l.getLast? = some y → cf y x < 0 := by
  rw [List.pairwise_append]
  constructor
  · rintro ⟨-, -, h3⟩ y hy
    exact h3 y (List.mem_of_getLast? hy) x (by simp)
  · intro hy
    refine ⟨hl, by simp, fun a ha b hb => ?_⟩
    rw [List.mem_singleton.1 hb]
    rcases List.eq_nil_or_concat l with rfl | ⟨l', z, rfl⟩
    · simp at ha
    · rw [List.concat_eq_append] at hy hl ha
      have hz := hy z (by simp)
      rcases List.mem_append.1 ha with ha | ha
      · exact h.trans _ _ _ ((List.pairwise_append.1 hl).2.2 a ha z (by simp)) hz
      · rw [List.mem_singleton.1 ha]; exact hz
theorem permB_ok {n : Int} {p : List Int} (h0 : 1 ≤ n) (h : (p.length : Int) = n ∧ permB p = true) : permOk n.toNat p := by
  obtain ⟨h1, h2⟩ := h
  unfold permB at h2
  simp only [Bool.and_eq_true, decide_eq_true_eq] at h2
  refine ⟨by omega, h2.2.2, fun x hx => ?_⟩
  have := h2.2.1 x hx
  omega
theorem permOk_B {n : Int} {p : List Int} (h0 : 1 ≤ n) (h32 : n ≤ 32) (h : permOk n.toNat p) : (p.length : Int) = n ∧ permB p = true := by
  have h1 := h.1
  refine ⟨by omega, ?_⟩
  unfold permB
  rw [decide_eq_true (by omega), Bool.true_and, decide_eq_true]
  refine ⟨fun x hx => ?_, h.2.1⟩
  have := h.2.2 x hx
  omega
theorem permsB {n : Int} {els : List (List Int)} (h0 : 1 ≤ n) (h32 : n ≤ 32) : (els.all fun p => decide ((p.length : Int) = n) && permB p) = true ↔ ∀ p ∈ els, permOk n.toNat p := by
  rw [List.all_eq_true]
  constructor
  · intro h p hp
    have := h p hp
    rw [Bool.and_eq_true, decide_eq_true_eq] at this
    exact permB_ok h0 this
  · intro h p hp
    have := permOk_B h0 h32 (h p hp)
    rw [Bool.and_eq_true, decide_eq_true_eq]
    exact this
theorem ValidGroup_fn (n : Int) (els : List (List Int)) (hl : ∀ x ∈ els, x.length ≤ 2000000) (hl2 : els.length ≤ 2000000) : PFn Tryz.prog f_impl_ValidGroup [.agg [I n, ilSS els]] (Bv (grpB n els)) := by
  have hap := arePermutations_fn n els hl
  have hw := within_fn n 1 32
  by_cases c1 : 1 ≤ n ∧ n ≤ 32
  rotate_left
  · have hF : grpB n els = false := grpB_f.2 fun h => c1 h.1
    rw [show (decide (1 ≤ n) && decide (n ≤ 32)) = false by rw [Bool.and_eq_false_iff, decide_eq_false_iff_not, decide_eq_false_iff_not]; omega] at hw
    intro H; refine ACalls.introB s_impl_ValidGroup (by simp) ?_; intro hB hA; unfold c_impl_ValidGroup; simp (config := { maxSteps := 1000000 }) (disch := (first | omega | (simp only [go_sem]; try omega))) only [go_sem, Nat.reduceAdd, Nat.reduceEqDiff, Nat.reduceLeDiff, Nat.reduceMul, Nat.reduceLT, reduceIte, Int.reduceToNat, w64_id, cast_succ]
    repeat (first | (with_reducible first | refine SW.seq ?_ | refine SW.block ?_ | refine SW.rowC ?_ | refine SW.skip ?_ | refine SW.exit ?_ | refine PFn.use (hw) ?_ | refine PFn.useq (hw) ?_ | intro _ | refine And.intro (by omega) ?_) | simp (config := { maxSteps := 1000000 }) (disch := (first | omega | (simp only [go_sem]; try omega))) only [go_sem, Nat.reduceAdd, Nat.reduceEqDiff, Nat.reduceLeDiff, Nat.reduceMul, Nat.reduceLT, reduceIte, Int.reduceToNat, w64_id, cast_succ])
    refine SW.condT rfl ?_
    repeat (first | (with_reducible first | refine SW.seq ?_ | refine SW.block ?_ | refine SW.rowC ?_ | refine SW.skip ?_ | refine SW.exit ?_ | intro _ | refine And.intro (by omega) ?_) | simp (config := { maxSteps := 1000000 }) (disch := (first | omega | (simp only [go_sem]; try omega))) only [go_sem, Nat.reduceAdd, Nat.reduceEqDiff, Nat.reduceLeDiff, Nat.reduceMul, Nat.reduceLT, reduceIte, Int.reduceToNat, w64_id, cast_succ])
    refine SW.ret ?_; (try simp only [go_sem]); (first | refine FunPost.one ?_ | refine FunPost.two ?_ | refine FunPost.three ?_); (try simp (config := { maxSteps := 1000000 }) (disch := (first | omega | (simp only [go_sem]; try omega))) only [go_sem, Nat.reduceAdd, Nat.reduceEqDiff, Nat.reduceLeDiff, Nat.reduceMul, Nat.reduceLT, reduceIte, Int.reduceToNat, w64_id, cast_succ]); (first | (with_reducible refine GR.drop ?_ ?_; (simp only [go_sem, and_self, and_true, true_and, implies_true, List.take_succ_cons, List.take_zero])) | refine GR.of ?_); refine ⟨?_, rfl⟩; (try with_reducible rfl)
    rw [hF]
  rw [show (decide (1 ≤ n) && decide (n ≤ 32)) = true by rw [Bool.and_eq_true, decide_eq_true_eq, decide_eq_true_eq]; omega] at hw
  by_cases c2 : 1 ≤ els.length
  rotate_left
  · have hF : grpB n els = false := grpB_f.2 fun h => c2 h.2.1.1
    have d2 : decide ((els.length : Int) < 1) = true := decide_eq_true (by omega)
    intro H; refine ACalls.introB s_impl_ValidGroup (by simp) ?_; intro hB hA; unfold c_impl_ValidGroup; simp (config := { maxSteps := 1000000 }) (disch := (first | omega | (simp only [go_sem]; try omega))) only [go_sem, Nat.reduceAdd, Nat.reduceEqDiff, Nat.reduceLeDiff, Nat.reduceMul, Nat.reduceLT, reduceIte, Int.reduceToNat, w64_id, cast_succ]
    repeat (first | (with_reducible first | refine SW.seq ?_ | refine SW.block ?_ | refine SW.rowC ?_ | refine SW.skip ?_ | refine SW.exit ?_ | refine PFn.use (hw) ?_ | refine PFn.useq (hw) ?_ | intro _ | refine And.intro (by omega) ?_) | simp (config := { maxSteps := 1000000 }) (disch := (first | omega | (simp only [go_sem]; try omega))) only [go_sem, Nat.reduceAdd, Nat.reduceEqDiff, Nat.reduceLeDiff, Nat.reduceMul, Nat.reduceLT, reduceIte, Int.reduceToNat, w64_id, cast_succ, d2])
    refine SW.condT rfl ?_
    repeat (first | (with_reducible first | refine SW.seq ?_ | refine SW.block ?_ | refine SW.rowC ?_ | refine SW.skip ?_ | refine SW.exit ?_ | intro _ | refine And.intro (by omega) ?_) | simp (config := { maxSteps := 1000000 }) (disch := (first | omega | (simp only [go_sem]; try omega))) only [go_sem, Nat.reduceAdd, Nat.reduceEqDiff, Nat.reduceLeDiff, Nat.reduceMul, Nat.reduceLT, reduceIte, Int.reduceToNat, w64_id, cast_succ])
    refine SW.ret ?_; (try simp only [go_sem]); (first | refine FunPost.one ?_ | refine FunPost.two ?_ | refine FunPost.three ?_); (try simp (config := { maxSteps := 1000000 }) (disch := (first | omega | (simp only [go_sem]; try omega))) only [go_sem, Nat.reduceAdd, Nat.reduceEqDiff, Nat.reduceLeDiff, Nat.reduceMul, Nat.reduceLT, reduceIte, Int.reduceToNat, w64_id, cast_succ]); (first | (with_reducible refine GR.drop ?_ ?_; (simp only [go_sem, and_self, and_true, true_and, implies_true, List.take_succ_cons, List.take_zero])) | refine GR.of ?_); refine ⟨?_, rfl⟩; (try with_reducible rfl)
    rw [hF]
  have d2 : decide ((els.length : Int) < 1) = false := decide_eq_false (by omega)
  by_cases c3 : els.length ≤ 720
  rotate_left
  · have hF : grpB n els = false := grpB_f.2 fun h => c3 h.2.1.2
    have d3 : decide ((720 : Int) < (els.length : Int)) = true := decide_eq_true (by omega)
    intro H; refine ACalls.introB s_impl_ValidGroup (by simp) ?_; intro hB hA; unfold c_impl_ValidGroup; simp (config := { maxSteps := 1000000 }) (disch := (first | omega | (simp only [go_sem]; try omega))) only [go_sem, Nat.reduceAdd, Nat.reduceEqDiff, Nat.reduceLeDiff, Nat.reduceMul, Nat.reduceLT, reduceIte, Int.reduceToNat, w64_id, cast_succ]
    repeat (first | (with_reducible first | refine SW.seq ?_ | refine SW.block ?_ | refine SW.rowC ?_ | refine SW.skip ?_ | refine SW.exit ?_ | refine PFn.use (hw) ?_ | refine PFn.useq (hw) ?_ | intro _ | refine And.intro (by omega) ?_) | simp (config := { maxSteps := 1000000 }) (disch := (first | omega | (simp only [go_sem]; try omega))) only [go_sem, Nat.reduceAdd, Nat.reduceEqDiff, Nat.reduceLeDiff, Nat.reduceMul, Nat.reduceLT, reduceIte, Int.reduceToNat, w64_id, cast_succ, d2, d3])
    refine SW.condT rfl ?_
    repeat (first | (with_reducible first | refine SW.seq ?_ | refine SW.block ?_ | refine SW.rowC ?_ | refine SW.skip ?_ | refine SW.exit ?_ | intro _ | refine And.intro (by omega) ?_) | simp (config := { maxSteps := 1000000 }) (disch := (first | omega | (simp only [go_sem]; try omega))) only [go_sem, Nat.reduceAdd, Nat.reduceEqDiff, Nat.reduceLeDiff, Nat.reduceMul, Nat.reduceLT, reduceIte, Int.reduceToNat, w64_id, cast_succ])
    refine SW.ret ?_; (try simp only [go_sem]); (first | refine FunPost.one ?_ | refine FunPost.two ?_ | refine FunPost.three ?_); (try simp (config := { maxSteps := 1000000 }) (disch := (first | omega | (simp only [go_sem]; try omega))) only [go_sem, Nat.reduceAdd, Nat.reduceEqDiff, Nat.reduceLeDiff, Nat.reduceMul, Nat.reduceLT, reduceIte, Int.reduceToNat, w64_id, cast_succ]); (first | (with_reducible refine GR.drop ?_ ?_; (simp only [go_sem, and_self, and_true, true_and, implies_true, List.take_succ_cons, List.take_zero])) | refine GR.of ?_); refine ⟨?_, rfl⟩; (try with_reducible rfl)
    rw [hF]
  have d3 : decide ((720 : Int) < (els.length : Int)) = false := decide_eq_false (by omega)
  by_cases c4 : ∀ p ∈ els, permOk n.toNat p
  rotate_left
  · have hF : grpB n els = false := grpB_f.2 fun h => c4 h.2.2.1
    rw [show (els.all fun p => decide ((p.length : Int) = n) && permB p) = false by rw [Bool.eq_false_iff]; exact fun h => c4 ((permsB c1.1 c1.2).1 h)] at hap
    intro H; refine ACalls.introB s_impl_ValidGroup (by simp) ?_; intro hB hA; unfold c_impl_ValidGroup; simp (config := { maxSteps := 1000000 }) (disch := (first | omega | (simp only [go_sem]; try omega))) only [go_sem, Nat.reduceAdd, Nat.reduceEqDiff, Nat.reduceLeDiff, Nat.reduceMul, Nat.reduceLT, reduceIte, Int.reduceToNat, w64_id, cast_succ]
    repeat (first | (with_reducible first | refine SW.seq ?_ | refine SW.block ?_ | refine SW.rowC ?_ | refine SW.skip ?_ | refine SW.exit ?_ | refine PFn.use (hw) ?_ | refine PFn.useq (hw) ?_ | refine PFn.use (hap) ?_ | refine PFn.useq (hap) ?_ | intro _ | refine And.intro (by omega) ?_) | simp (config := { maxSteps := 1000000 }) (disch := (first | omega | (simp only [go_sem]; try omega))) only [go_sem, Nat.reduceAdd, Nat.reduceEqDiff, Nat.reduceLeDiff, Nat.reduceMul, Nat.reduceLT, reduceIte, Int.reduceToNat, w64_id, cast_succ, d2, d3])
    refine SW.condT rfl ?_
    repeat (first | (with_reducible first | refine SW.seq ?_ | refine SW.block ?_ | refine SW.rowC ?_ | refine SW.skip ?_ | refine SW.exit ?_ | intro _ | refine And.intro (by omega) ?_) | simp (config := { maxSteps := 1000000 }) (disch := (first | omega | (simp only [go_sem]; try omega))) only [go_sem, Nat.reduceAdd, Nat.reduceEqDiff, Nat.reduceLeDiff, Nat.reduceMul, Nat.reduceLT, reduceIte, Int.reduceToNat, w64_id, cast_succ])
    refine SW.ret ?_; (try simp only [go_sem]); (first | refine FunPost.one ?_ | refine FunPost.two ?_ | refine FunPost.three ?_); (try simp (config := { maxSteps := 1000000 }) (disch := (first | omega | (simp only [go_sem]; try omega))) only [go_sem, Nat.reduceAdd, Nat.reduceEqDiff, Nat.reduceLeDiff, Nat.reduceMul, Nat.reduceLT, reduceIte, Int.reduceToNat, w64_id, cast_succ]); (first | (with_reducible refine GR.drop ?_ ?_; (simp only [go_sem, and_self, and_true, true_and, implies_true, List.take_succ_cons, List.take_zero])) | refine GR.of ?_); refine ⟨?_, rfl⟩; (try with_reducible rfl)
    rw [hF]
  rw [(permsB c1.1 c1.2).2 c4] at hap
  intro H; refine ACalls.introB s_impl_ValidGroup (by simp) ?_; intro hB hA; unfold c_impl_ValidGroup; simp (config := { maxSteps := 1000000 }) (disch := (first | omega | (simp only [go_sem]; try omega))) only [go_sem, Nat.reduceAdd, Nat.reduceEqDiff, Nat.reduceLeDiff, Nat.reduceMul, Nat.reduceLT, reduceIte, Int.reduceToNat, w64_id, cast_succ]
  repeat (first | (with_reducible first | refine SW.seq ?_ | refine SW.block ?_ | refine SW.rowC ?_ | refine SW.skip ?_ | refine SW.exit ?_ | refine PFn.use (hw) ?_ | refine PFn.useq (hw) ?_ | refine PFn.use (hap) ?_ | refine PFn.useq (hap) ?_ | intro _ | refine And.intro (by omega) ?_) | simp (config := { maxSteps := 1000000 }) (disch := (first | omega | (simp only [go_sem]; try omega))) only [go_sem, Nat.reduceAdd, Nat.reduceEqDiff, Nat.reduceLeDiff, Nat.reduceMul, Nat.reduceLT, reduceIte, Int.reduceToNat, w64_id, cast_succ, d2, d3])
  refine SW.condF rfl ?_
  repeat (first | (with_reducible first | refine SW.seq ?_ | refine SW.block ?_ | refine SW.rowC ?_ | refine SW.skip ?_ | refine SW.exit ?_ | intro _ | refine And.intro (by omega) ?_) | simp (config := { maxSteps := 1000000 }) (disch := (first | omega | (simp only [go_sem]; try omega))) only [go_sem, Nat.reduceAdd, Nat.reduceEqDiff, Nat.reduceLeDiff, Nat.reduceMul, Nat.reduceLT, reduceIte, Int.reduceToNat, w64_id, cast_succ])
  refine SW.loopE (fun E0 H0 q E' H' => ∃ k : Nat, 1 ≤ k ∧ k ≤ els.length ∧ q = els.length - k ∧ E' = aput E0 3 (I k) ∧ H' = H0 ∧ Asc cmpL (els.take k)) (els.length - 1) ⟨1, by omega, by omega, rfl, rfl, rfl, ?_⟩ ?_
  · rw [List.take_one]
    cases els <;> simp [Asc]
  rintro q E' H' ⟨k, hk1, hkl, rfl, rfl, rfl, hasc⟩
  simp (config := { maxSteps := 1000000 }) (disch := (first | omega | (simp only [go_sem]; try omega))) only [go_sem, Nat.reduceAdd, Nat.reduceEqDiff, Nat.reduceLeDiff, Nat.reduceMul, Nat.reduceLT, reduceIte, Int.reduceToNat, w64_id, cast_succ]
  repeat (first | (with_reducible first | refine SW.seq ?_ | refine SW.block ?_ | refine SW.rowC ?_ | refine SW.skip ?_ | refine SW.exit ?_ | intro _ | refine And.intro (by omega) ?_) | simp (config := { maxSteps := 1000000 }) (disch := (first | omega | (simp only [go_sem]; try omega))) only [go_sem, Nat.reduceAdd, Nat.reduceEqDiff, Nat.reduceLeDiff, Nat.reduceMul, Nat.reduceLT, reduceIte, Int.reduceToNat, w64_id, cast_succ])
  (first | refine SW.condD rfl (fun h2 => ?_) (fun h2 => ?_) | refine SW.condN rfl (fun h2 => ?_) (fun h2 => ?_) | refine SW.condNB rfl (fun h2 => ?_) (fun h2 => ?_) | refine SW.condB rfl (fun h2 => ?_) (fun h2 => ?_))
  · have hklt : k < els.length := by omega
    have e1 : (k : Int) - 1 = ((k - 1 : Nat) : Int) := by omega
    have hcf := slicesCompare_fn (els.getD (k - 1) []) (els.getD k [])
    have hgk : els.getD k [] = els[k] := by rw [List.getD_eq_getElem?_getD, List.getElem?_eq_getElem hklt]; rfl
    have hgk1 : els.getD (k - 1) [] = els[k - 1] := by rw [List.getD_eq_getElem?_getD, List.getElem?_eq_getElem (by omega)]; rfl
    by_cases hc : cmpL (els.getD (k - 1) []) (els.getD k []) < 0
    · have dd : decide (0 ≤ cmpL (els.getD (k - 1) []) (els.getD k [])) = false := decide_eq_false (by omega)
      repeat (first | (with_reducible first | refine SW.seq ?_ | refine SW.block ?_ | refine SW.rowC ?_ | refine SW.skip ?_ | refine SW.exit ?_ | refine PFn.use (hcf) ?_ | refine PFn.useq (hcf) ?_ | intro _ | refine And.intro (by omega) ?_) | simp (config := { maxSteps := 1000000 }) (disch := (first | omega | (simp only [go_sem]; try omega))) only [go_sem, Nat.reduceAdd, Nat.reduceEqDiff, Nat.reduceLeDiff, Nat.reduceMul, Nat.reduceLT, reduceIte, Int.reduceToNat, w64_id, cast_succ, e1, dd])
      refine SW.condF rfl ?_
      repeat (first | (with_reducible first | refine SW.seq ?_ | refine SW.block ?_ | refine SW.rowC ?_ | refine SW.skip ?_ | refine SW.exit ?_ | intro _ | refine And.intro (by omega) ?_) | simp (config := { maxSteps := 1000000 }) (disch := (first | omega | (simp only [go_sem]; try omega))) only [go_sem, Nat.reduceAdd, Nat.reduceEqDiff, Nat.reduceLeDiff, Nat.reduceMul, Nat.reduceLT, reduceIte, Int.reduceToNat, w64_id, cast_succ])
      refine SLoop.next (els.length - (k + 1)) (by omega) ⟨k + 1, by omega, by omega, rfl, by simp [go_sem], rfl, ?_⟩
      rw [List.take_add_one, List.getElem?_eq_getElem hklt]
      have hlast : (els.take k).getLast? = some els[k - 1] := by
        rw [List.getLast?_eq_getElem?, List.length_take, Nat.min_eq_left hkl, List.getElem?_take_of_lt (by omega), List.getElem?_eq_getElem (by omega)]
      refine (ascL_snoc cmpL_tot hasc).2 fun y hy => ?_
      rw [hlast] at hy
      cases hy
      rw [← hgk1, ← hgk]; exact hc
    · have dd : decide (0 ≤ cmpL (els.getD (k - 1) []) (els.getD k [])) = true := decide_eq_true (by omega)
      have hF : grpB n els = false := grpB_f.2 fun h => by
        have := List.pairwise_iff_getElem.1 h.2.2.2.1 (k - 1) k (by omega) hklt (by omega)
        rw [← hgk, ← hgk1] at this
        exact hc this
      repeat (first | (with_reducible first | refine SW.seq ?_ | refine SW.block ?_ | refine SW.rowC ?_ | refine SW.skip ?_ | refine SW.exit ?_ | refine PFn.use (hcf) ?_ | refine PFn.useq (hcf) ?_ | intro _ | refine And.intro (by omega) ?_) | simp (config := { maxSteps := 1000000 }) (disch := (first | omega | (simp only [go_sem]; try omega))) only [go_sem, Nat.reduceAdd, Nat.reduceEqDiff, Nat.reduceLeDiff, Nat.reduceMul, Nat.reduceLT, reduceIte, Int.reduceToNat, w64_id, cast_succ, e1, dd])
      refine SW.condT rfl ?_
      repeat (first | (with_reducible first | refine SW.seq ?_ | refine SW.block ?_ | refine SW.rowC ?_ | refine SW.skip ?_ | refine SW.exit ?_ | intro _ | refine And.intro (by omega) ?_) | simp (config := { maxSteps := 1000000 }) (disch := (first | omega | (simp only [go_sem]; try omega))) only [go_sem, Nat.reduceAdd, Nat.reduceEqDiff, Nat.reduceLeDiff, Nat.reduceMul, Nat.reduceLT, reduceIte, Int.reduceToNat, w64_id, cast_succ])
      refine SW.ret ?_; (try simp only [go_sem]); (first | refine FunPost.one ?_ | refine FunPost.two ?_ | refine FunPost.three ?_); (try simp (config := { maxSteps := 1000000 }) (disch := (first | omega | (simp only [go_sem]; try omega))) only [go_sem, Nat.reduceAdd, Nat.reduceEqDiff, Nat.reduceLeDiff, Nat.reduceMul, Nat.reduceLT, reduceIte, Int.reduceToNat, w64_id, cast_succ]); (first | (with_reducible refine GR.drop ?_ ?_; (simp only [go_sem, and_self, and_true, true_and, implies_true, List.take_succ_cons, List.take_zero])) | refine GR.of ?_); refine ⟨?_, rfl⟩; (try with_reducible rfl)
      rw [hF]
  · have : k = els.length := by omega
    subst this
    rw [List.take_length] at hasc
    have en : n = ((n.toNat : Nat) : Int) := by omega
    have hch := fun H => chosen_ok H n.toNat els (by omega) (by omega) c4 c3
    rw [← en] at hch
    repeat (first | (with_reducible first | refine SW.seq ?_ | refine SW.block ?_ | refine SW.rowC ?_ | refine SW.skip ?_ | refine SW.exit ?_ | intro _ | refine And.intro (by omega) ?_) | simp (config := { maxSteps := 1000000 }) (disch := (first | omega | (simp only [go_sem]; try omega))) only [go_sem, Nat.reduceAdd, Nat.reduceEqDiff, Nat.reduceLeDiff, Nat.reduceMul, Nat.reduceLT, reduceIte, Int.reduceToNat, w64_id, cast_succ])
    refine (hch _).mono ?_
    rintro r H' ⟨G, A, okb, rfl, hG, hgl, hall, rfl⟩
    have hfin : grpB n els = (okb && decide (A.length = els.length)) := by
      cases okb with
      | true =>
        rw [if_pos rfl] at hgl
        have hGL := (genL_inv hgl).1
        have hci := closed_iff c4 hasc hG hGL (hall rfl)
        rw [Bool.true_and, Bool.eq_iff_iff, grpB_t, decide_eq_true_eq, ← hci]
        exact ⟨fun h => h.2.2.2.2, fun h => ⟨c1, ⟨c2, c3⟩, c4, hasc, h⟩⟩
      | false =>
        rw [if_neg (by simp)] at hgl
        rw [Bool.false_and, grpB_f]
        intro h
        obtain ⟨L, hL, _⟩ := closed_small h.2.2.2.2 hasc hG c3
        rw [hgl] at hL; cases hL
    rw [hfin]
    cases okb with
    | true =>
      have hd : decide (((A.length : Nat) : Int) = ((els.length : Nat) : Int)) = decide (A.length = els.length) := decide_eq_decide.2 (by omega)
      repeat (first | (with_reducible first | refine SW.seq ?_ | refine SW.block ?_ | refine SW.rowC ?_ | refine SW.skip ?_ | refine SW.exit ?_ | intro _ | refine And.intro (by omega) ?_) | simp (config := { maxSteps := 1000000 }) (disch := (first | omega | (simp only [go_sem]; try omega))) only [go_sem, Nat.reduceAdd, Nat.reduceEqDiff, Nat.reduceLeDiff, Nat.reduceMul, Nat.reduceLT, reduceIte, Int.reduceToNat, w64_id, cast_succ, hd])
      refine SW.ret ?_; (try simp only [go_sem]); (first | refine FunPost.one ?_ | refine FunPost.two ?_ | refine FunPost.three ?_); (try simp (config := { maxSteps := 1000000 }) (disch := (first | omega | (simp only [go_sem]; try omega))) only [go_sem, Nat.reduceAdd, Nat.reduceEqDiff, Nat.reduceLeDiff, Nat.reduceMul, Nat.reduceLT, reduceIte, Int.reduceToNat, w64_id, cast_succ]); (first | (with_reducible refine GR.drop ?_ ?_; (simp only [go_sem, and_self, and_true, true_and, implies_true, List.take_succ_cons, List.take_zero])) | refine GR.of ?_); refine ⟨?_, rfl⟩; (try with_reducible rfl)
    | false =>
      repeat (first | (with_reducible first | refine SW.seq ?_ | refine SW.block ?_ | refine SW.rowC ?_ | refine SW.skip ?_ | refine SW.exit ?_ | intro _ | refine And.intro (by omega) ?_) | simp (config := { maxSteps := 1000000 }) (disch := (first | omega | (simp only [go_sem]; try omega))) only [go_sem, Nat.reduceAdd, Nat.reduceEqDiff, Nat.reduceLeDiff, Nat.reduceMul, Nat.reduceLT, reduceIte, Int.reduceToNat, w64_id, cast_succ])
      refine SW.ret ?_; (try simp only [go_sem]); (first | refine FunPost.one ?_ | refine FunPost.two ?_ | refine FunPost.three ?_); (try simp (config := { maxSteps := 1000000 }) (disch := (first | omega | (simp only [go_sem]; try omega))) only [go_sem, Nat.reduceAdd, Nat.reduceEqDiff, Nat.reduceLeDiff, Nat.reduceMul, Nat.reduceLT, reduceIte, Int.reduceToNat, w64_id, cast_succ]); (first | (with_reducible refine GR.drop ?_ ?_; (simp only [go_sem, and_self, and_true, true_and, implies_true, List.take_succ_cons, List.take_zero])) | refine GR.of ?_); refine ⟨?_, rfl⟩; (try with_reducible rfl)
end Go.Proofs.YtkifdjjnbplghaaGreat
namespace Go.Proofs.YtkifdjjnbplghaaGreat
open Go.Av
theorem slcRows {H : List Blk} (K : AV → Prop) (xs : List (List Int)) (z y : Int) (h0 : 0 ≤ z) (h1 : z ≤ y) (h2 : y ≤ xs.length) : SlcG 1 (ilSS xs) z y H K (some (xs.length, xs.map ilS)) = K (ilSS ((xs.drop z.toNat).take (y.toNat - z.toNat))) := by
  unfold ilSS
  rw [SlcG_il (h0 := h0) (h1 := h1) (h2 := h2)]
  simp only [Nat.mul_one, ← List.map_drop, ← List.map_take, List.length_take, List.length_drop]
  rw [Nat.min_eq_left (by omega)]
theorem ren_oneS {H bs : List Blk} {i ver ty : Nat} {xss : List (List Int)} (hi : H.length ≤ i) (h : (H ++ bs)[i]? = some ⟨ver, ty, 1, xss.map ilS⟩) : RenOk (H ++ bs) H.length [some i] [⟨0, ty, 1, xss.map ilS⟩] := by
  refine ⟨rfl, ?_, ?_, ?_⟩
  · intro p q j hp hq
    have h1 := (List.getElem?_eq_some_iff.1 hp).1
    have h2 := (List.getElem?_eq_some_iff.1 hq).1
    simp at h1 h2; omega
  · intro p j nb hp hn
    have h1 := (List.getElem?_eq_some_iff.1 hp).1
    have : p = 0 := by simp at h1; omega
    subst this
    simp at hp hn
    subst hp; subst hn
    refine ⟨_, hi, h, by simp, rfl, rfl, rfl, Nat.le_refl _, fun i c' hc => ⟨c', hc, ?_⟩⟩
    obtain ⟨x, _, rfl⟩ := List.mem_map.1 (List.mem_of_getElem? hc)
    exact ren_ilS x
  · intro p nb hp
    have h1 := (List.getElem?_eq_some_iff.1 hp).1
    have : p = 0 := by simp at h1; omega
    subst this
    simp at hp
theorem SW.keepS {P : Program} {n k0 : Nat} {c : SC} {Q : SX → Env → List Blk → Prop} {E E' : Env} {H bs : List Blk} {i ver ty : Nat} {xss : List (List Int)} (hB : HB H) (h0 : k0 ≤ H.length) (hi : H.length ≤ i) (h : (H ++ bs)[i]? = some ⟨ver, ty, 1, xss.map ilS⟩)
    (hE : RE (H ++ bs) H.length [some i] E E') (hk : Go.Av.SW P n k0 c Q E' (H ++ [⟨0, ty, 1, xss.map ilS⟩])) : Go.Av.SW P n k0 c Q E (H ++ bs) := by
  have g := Gh.ren (k0 := k0) (k := H.length) h0 (by simp) (ren_oneS hi h) (by rw [List.take_left]; exact hB) (fun j => hE.get j)
  rw [List.take_left] at g
  exact Go.Av.SW.ghost g hk
theorem l05Find_fn (L : List (List Int)) (p : List Int) (ha : Asc cmpL L) (hl : L.length ≤ 1000000) : PFn Tryz.prog f_spec_l05Find [ilSS L, ilS p] (.tup [I (cntL L p), Bv (decide (p ∈ L))]) := by
  have hcl := cntL_le L p
  have hmem := cntL_mem (p := p) ha
  intro H; refine ACalls.introB s_spec_l05Find (by simp) ?_; intro hB hA; unfold c_spec_l05Find; simp (config := { maxSteps := 1000000 }) (disch := (first | omega | (simp only [go_sem]; try omega))) only [go_sem, Nat.reduceAdd, Nat.reduceEqDiff, Nat.reduceLeDiff, Nat.reduceMul, Nat.reduceLT, reduceIte, Int.reduceToNat, w64_id, cast_succ]
  repeat (first | (with_reducible first | refine SW.seq ?_ | refine SW.block ?_ | refine SW.rowC ?_ | refine SW.skip ?_ | refine SW.exit ?_ | intro _ | refine And.intro (by omega) ?_) | simp (config := { maxSteps := 1000000 }) (disch := (first | omega | (simp only [go_sem]; try omega))) only [go_sem, Nat.reduceAdd, Nat.reduceEqDiff, Nat.reduceLeDiff, Nat.reduceMul, Nat.reduceLT, reduceIte, Int.reduceToNat, w64_id, cast_succ])
  refine SW.loopE (fun E0 H0 q E' H' => ∃ i j : Nat, i ≤ cntL L p ∧ cntL L p ≤ j ∧ j ≤ L.length ∧ q = j - i ∧ E' = aput (aput E0 6 (I i)) 7 (I j) ∧ H' = H0 ∧ (p ∈ L → cntL L p < j)) L.length ⟨0, L.length, by omega, by omega, by omega, by omega, rfl, rfl, fun h => (hmem.1 h).1⟩ ?_
  rintro q E' H' ⟨i, j, hi, hj, hjl, rfl, rfl, rfl, hin⟩
  simp (config := { maxSteps := 1000000 }) (disch := (first | omega | (simp only [go_sem]; try omega))) only [go_sem, Nat.reduceAdd, Nat.reduceEqDiff, Nat.reduceLeDiff, Nat.reduceMul, Nat.reduceLT, reduceIte, Int.reduceToNat, w64_id, cast_succ]
  repeat (first | (with_reducible first | refine SW.seq ?_ | refine SW.block ?_ | refine SW.rowC ?_ | refine SW.skip ?_ | refine SW.exit ?_ | intro _ | refine And.intro (by omega) ?_) | simp (config := { maxSteps := 1000000 }) (disch := (first | omega | (simp only [go_sem]; try omega))) only [go_sem, Nat.reduceAdd, Nat.reduceEqDiff, Nat.reduceLeDiff, Nat.reduceMul, Nat.reduceLT, reduceIte, Int.reduceToNat, w64_id, cast_succ])
  (first | refine SW.condD rfl (fun h2 => ?_) (fun h2 => ?_) | refine SW.condN rfl (fun h2 => ?_) (fun h2 => ?_) | refine SW.condNB rfl (fun h2 => ?_) (fun h2 => ?_) | refine SW.condB rfl (fun h2 => ?_) (fun h2 => ?_))
  · have hf : ((i : Int) + (j : Int)).tdiv 2 = (((i + j) / 2 : Nat) : Int) := by
      rw [Int.tdiv_eq_ediv_of_nonneg (by omega)]; omega
    have hh : i ≤ (i + j) / 2 ∧ (i + j) / 2 < j := by omega
    generalize hm : (i + j) / 2 = m at *
    have hml : m < L.length := by omega
    have hgm : L.getD m [] = L[m] := by rw [List.getD_eq_getElem?_getD, List.getElem?_eq_getElem hml]; rfl
    have hlt := cntL_lt (p := p) ha hml
    rw [← hgm] at hlt
    have hcf := CompareLists_fn (L.getD m []) p
    repeat (first | (with_reducible first | refine SW.seq ?_ | refine SW.block ?_ | refine SW.rowC ?_ | refine SW.skip ?_ | refine SW.exit ?_ | refine PFn.use (hcf) ?_ | refine PFn.useq (hcf) ?_ | intro _ | refine And.intro (by omega) ?_) | simp (config := { maxSteps := 1000000 }) (disch := (first | omega | (simp only [go_sem]; try omega))) only [go_sem, Nat.reduceAdd, Nat.reduceEqDiff, Nat.reduceLeDiff, Nat.reduceMul, Nat.reduceLT, reduceIte, Int.reduceToNat, w64_id, cast_succ, hf])
    by_cases h0 : cmpL (L.getD m []) p = 0
    · have dd := decide_eq_true h0
      repeat (first | (with_reducible first | refine SW.seq ?_ | refine SW.block ?_ | refine SW.rowC ?_ | refine SW.skip ?_ | refine SW.exit ?_ | intro _ | refine And.intro (by omega) ?_) | simp (config := { maxSteps := 1000000 }) (disch := (first | omega | (simp only [go_sem]; try omega))) only [go_sem, Nat.reduceAdd, Nat.reduceEqDiff, Nat.reduceLeDiff, Nat.reduceMul, Nat.reduceLT, reduceIte, Int.reduceToNat, w64_id, cast_succ, dd])
      refine SW.condT rfl ?_
      have hpm : p ∈ L := by
        rw [← (cmpL_eq0 _ _).1 h0, hgm]; exact List.getElem_mem _
      have hmc : m = cntL L p := by
        rcases Nat.lt_or_ge (cntL L p) m with h | h
        · exfalso
          have h5 := cntL_lt (p := p) ha (h := cntL L p) (by omega)
          have h6 := List.pairwise_iff_getElem.1 ha (cntL L p) m (by omega) hml h
          rw [hgm] at h0
          rw [(cmpL_eq0 _ _).1 h0] at h6
          have := h5.1 h6
          omega
        · rcases Nat.lt_or_eq_of_le h with h7 | h7
          · have := hlt.2 h7; omega
          · exact h7
      repeat (first | (with_reducible first | refine SW.seq ?_ | refine SW.block ?_ | refine SW.rowC ?_ | refine SW.skip ?_ | refine SW.exit ?_ | intro _ | refine And.intro (by omega) ?_) | simp (config := { maxSteps := 1000000 }) (disch := (first | omega | (simp only [go_sem]; try omega))) only [go_sem, Nat.reduceAdd, Nat.reduceEqDiff, Nat.reduceLeDiff, Nat.reduceMul, Nat.reduceLT, reduceIte, Int.reduceToNat, w64_id, cast_succ])
      refine SW.ret ?_; (try simp only [go_sem]); (first | refine FunPost.one ?_ | refine FunPost.two ?_ | refine FunPost.three ?_); (try simp (config := { maxSteps := 1000000 }) (disch := (first | omega | (simp only [go_sem]; try omega))) only [go_sem, Nat.reduceAdd, Nat.reduceEqDiff, Nat.reduceLeDiff, Nat.reduceMul, Nat.reduceLT, reduceIte, Int.reduceToNat, w64_id, cast_succ]); (first | (with_reducible refine GR.drop ?_ ?_; (simp only [go_sem, and_self, and_true, true_and, implies_true, List.take_succ_cons, List.take_zero])) | refine GR.of ?_); refine ⟨?_, rfl⟩; (try with_reducible rfl)
      rw [hmc, decide_eq_true hpm]
    · have dd := decide_eq_false h0
      repeat (first | (with_reducible first | refine SW.seq ?_ | refine SW.block ?_ | refine SW.rowC ?_ | refine SW.skip ?_ | refine SW.exit ?_ | intro _ | refine And.intro (by omega) ?_) | simp (config := { maxSteps := 1000000 }) (disch := (first | omega | (simp only [go_sem]; try omega))) only [go_sem, Nat.reduceAdd, Nat.reduceEqDiff, Nat.reduceLeDiff, Nat.reduceMul, Nat.reduceLT, reduceIte, Int.reduceToNat, w64_id, cast_succ, dd])
      refine SW.condF rfl ?_
      repeat (first | (with_reducible first | refine SW.seq ?_ | refine SW.block ?_ | refine SW.rowC ?_ | refine SW.skip ?_ | refine SW.exit ?_ | intro _ | refine And.intro (by omega) ?_) | simp (config := { maxSteps := 1000000 }) (disch := (first | omega | (simp only [go_sem]; try omega))) only [go_sem, Nat.reduceAdd, Nat.reduceEqDiff, Nat.reduceLeDiff, Nat.reduceMul, Nat.reduceLT, reduceIte, Int.reduceToNat, w64_id, cast_succ])
      by_cases hlm : cmpL (L.getD m []) p < 0
      · have d2 := decide_eq_true hlm
        repeat (first | (with_reducible first | refine SW.seq ?_ | refine SW.block ?_ | refine SW.rowC ?_ | refine SW.skip ?_ | refine SW.exit ?_ | intro _ | refine And.intro (by omega) ?_) | simp (config := { maxSteps := 1000000 }) (disch := (first | omega | (simp only [go_sem]; try omega))) only [go_sem, Nat.reduceAdd, Nat.reduceEqDiff, Nat.reduceLeDiff, Nat.reduceMul, Nat.reduceLT, reduceIte, Int.reduceToNat, w64_id, cast_succ, d2])
        refine SW.condT rfl ?_
        repeat (first | (with_reducible first | refine SW.seq ?_ | refine SW.block ?_ | refine SW.rowC ?_ | refine SW.skip ?_ | refine SW.exit ?_ | intro _ | refine And.intro (by omega) ?_) | simp (config := { maxSteps := 1000000 }) (disch := (first | omega | (simp only [go_sem]; try omega))) only [go_sem, Nat.reduceAdd, Nat.reduceEqDiff, Nat.reduceLeDiff, Nat.reduceMul, Nat.reduceLT, reduceIte, Int.reduceToNat, w64_id, cast_succ])
        refine SLoop.next (j - (m + 1)) (by omega) ⟨m + 1, j, hlt.1 hlm, hj, hjl, rfl, by simp [go_sem], rfl, hin⟩
      · have d2 := decide_eq_false hlm
        repeat (first | (with_reducible first | refine SW.seq ?_ | refine SW.block ?_ | refine SW.rowC ?_ | refine SW.skip ?_ | refine SW.exit ?_ | intro _ | refine And.intro (by omega) ?_) | simp (config := { maxSteps := 1000000 }) (disch := (first | omega | (simp only [go_sem]; try omega))) only [go_sem, Nat.reduceAdd, Nat.reduceEqDiff, Nat.reduceLeDiff, Nat.reduceMul, Nat.reduceLT, reduceIte, Int.reduceToNat, w64_id, cast_succ, d2])
        refine SW.condF rfl ?_
        repeat (first | (with_reducible first | refine SW.seq ?_ | refine SW.block ?_ | refine SW.rowC ?_ | refine SW.skip ?_ | refine SW.exit ?_ | intro _ | refine And.intro (by omega) ?_) | simp (config := { maxSteps := 1000000 }) (disch := (first | omega | (simp only [go_sem]; try omega))) only [go_sem, Nat.reduceAdd, Nat.reduceEqDiff, Nat.reduceLeDiff, Nat.reduceMul, Nat.reduceLT, reduceIte, Int.reduceToNat, w64_id, cast_succ])
        refine SLoop.next (m - i) (by omega) ⟨i, m, hi, by omega, by omega, rfl, by simp [go_sem], rfl, fun hp => ?_⟩
        rcases Nat.lt_or_eq_of_le (show cntL L p ≤ m by omega) with h | h
        · exact h
        · exfalso
          obtain ⟨h8, h9⟩ := hmem.1 hp
          refine h0 ?_
          rw [hgm, ← h9]
          simp only [h]
  · have hij : i = j := by omega
    have hic : i = cntL L p := by omega
    repeat (first | (with_reducible first | refine SW.seq ?_ | refine SW.block ?_ | refine SW.rowC ?_ | refine SW.skip ?_ | refine SW.exit ?_ | intro _ | refine And.intro (by omega) ?_) | simp (config := { maxSteps := 1000000 }) (disch := (first | omega | (simp only [go_sem]; try omega))) only [go_sem, Nat.reduceAdd, Nat.reduceEqDiff, Nat.reduceLeDiff, Nat.reduceMul, Nat.reduceLT, reduceIte, Int.reduceToNat, w64_id, cast_succ])
    refine SW.ret ?_; (try simp only [go_sem]); (first | refine FunPost.one ?_ | refine FunPost.two ?_ | refine FunPost.three ?_); (try simp (config := { maxSteps := 1000000 }) (disch := (first | omega | (simp only [go_sem]; try omega))) only [go_sem, Nat.reduceAdd, Nat.reduceEqDiff, Nat.reduceLeDiff, Nat.reduceMul, Nat.reduceLT, reduceIte, Int.reduceToNat, w64_id, cast_succ]); (first | (with_reducible refine GR.drop ?_ ?_; (simp only [go_sem, and_self, and_true, true_and, implies_true, List.take_succ_cons, List.take_zero])) | refine GR.of ?_); refine ⟨?_, rfl⟩; (try with_reducible rfl)
    rw [hic, decide_eq_false (fun h => by have := hin h; omega)]
theorem l05Put_fn (L : List (List Int)) (p : List Int) (k : Nat) (hk : k ≤ L.length) (hl : L.length ≤ 1000000) : PFn Tryz.prog f_spec_l05Put [ilSS L, I k, ilS p] (ilSS (L.take k ++ p :: L.drop k)) := by
  have htk : (L.take k).length = k := by simp; omega
  have hdk : (L.drop k).length = L.length - k := by simp
  have htd : (L.drop k).take (L.length - k) = L.drop k := List.take_of_length_le (by simp)
  have htm : ((L.take k).map ilS).take k = (L.take k).map ilS := List.take_of_length_le (by simp; omega)
  have hlen : k + 1 + (L.length - k) = (L.take k ++ p :: L.drop k).length := by simp; omega
  intro H; refine ACalls.introB s_spec_l05Put (by simp) ?_; intro hB hA; unfold c_spec_l05Put; simp (config := { maxSteps := 1000000 }) (disch := (first | omega | (simp only [go_sem]; try omega))) only [go_sem, Nat.reduceAdd, Nat.reduceEqDiff, Nat.reduceLeDiff, Nat.reduceMul, Nat.reduceLT, reduceIte, Int.reduceToNat, w64_id, cast_succ]
  repeat (first | (with_reducible first | refine SW.seq ?_ | refine SW.block ?_ | refine SW.rowC ?_ | refine SW.skip ?_ | refine SW.exit ?_ | intro _ | refine And.intro (by omega) ?_) | simp (config := { maxSteps := 1000000 }) (disch := (first | omega | (simp only [go_sem]; try omega))) only [go_sem, Nat.reduceAdd, Nat.reduceEqDiff, Nat.reduceLeDiff, Nat.reduceMul, Nat.reduceLT, reduceIte, Int.reduceToNat, w64_id, cast_succ, htk, hdk, htd, htm, Option.map_some, Option.map_none, slcRows, List.drop_zero, Int.toNat_natCast, Nat.sub_zero, Int.toNat_zero])
  refine SW.ret ?_; (try simp only [go_sem]); (first | refine FunPost.one ?_ | refine FunPost.two ?_ | refine FunPost.three ?_); (try simp (config := { maxSteps := 1000000 }) (disch := (first | omega | (simp only [go_sem]; try omega))) only [go_sem, Nat.reduceAdd, Nat.reduceEqDiff, Nat.reduceLeDiff, Nat.reduceMul, Nat.reduceLT, reduceIte, Int.reduceToNat, w64_id, cast_succ])
  have htn : (List.map ilS (L.take k ++ [p])).take (k + 1) = List.map ilS (L.take k ++ [p]) := List.take_of_length_le (by simp; omega)
  have hcells : (List.map ilS (L.take k ++ [p])).take (k + 1) ++ List.map ilS (L.drop k) = (L.take k ++ p :: L.drop k).map ilS := by rw [htn]; simp
  rw [hcells, hlen]
  exact GR.froz (froz_rowsS (ver := 3) (ty := tyLL) (by omega) (by simp)) ⟨rfl, rfl⟩
theorem put_is {L : List (List Int)} {p : List Int} (ha : Asc cmpL L) (hp : p ∉ L) : L.take (cntL L p) ++ p :: L.drop (cntL L p) = insU cmpL p L := by
  refine asc_uniq cmpL_tot ?_ (insU_asc cmpL_tot p ha) (fun y => ?_)
  · unfold Asc
    have hsp : L = L.take (cntL L p) ++ L.drop (cntL L p) := (List.take_append_drop _ _).symm
    have ha2 := ha
    unfold Asc at ha2
    rw [hsp, List.pairwise_append] at ha2
    have h1 : ∀ x ∈ L.take (cntL L p), cmpL x p < 0 := by
      intro x hx
      obtain ⟨j, hj, rfl⟩ := List.getElem_of_mem hx
      have hjl : j < cntL L p ∧ j < L.length := by simp at hj; omega
      rw [List.getElem_take]
      exact (cntL_lt ha hjl.2).2 hjl.1
    have h2 : ∀ x ∈ L.drop (cntL L p), cmpL p x < 0 := by
      intro x hx
      obtain ⟨j, hj, rfl⟩ := List.getElem_of_mem hx
      have hjl : cntL L p + j < L.length := by simp at hj; omega
      rw [List.getElem_drop]
      have h3 := (cntL_lt (p := p) ha hjl)
      have h4 : cmpL L[cntL L p + j] p ≠ 0 := fun h => hp (by rw [← (cmpL_eq0 _ _).1 h]; exact List.getElem_mem _)
      have h5 := cmpL_tot.neg L[cntL L p + j] p
      have h6 : ¬ cmpL L[cntL L p + j] p < 0 := fun h => by have := h3.1 h; omega
      omega
    rw [List.pairwise_append]
    refine ⟨ha2.1, List.pairwise_cons.2 ⟨h2, ha2.2.1⟩, fun a h b hb => ?_⟩
    rcases List.mem_cons.1 hb with rfl | hb
    · exact h1 a h
    · exact cmpL_trans _ _ _ (h1 a h) (h2 b hb)
  · rw [insU_mem cmpL_tot, List.mem_append, List.mem_cons]
    have : y ∈ L ↔ y ∈ L.take (cntL L p) ∨ y ∈ L.drop (cntL L p) := by rw [← List.mem_append, List.take_append_drop]
    rw [this]
    constructor
    · rintro (h | h | h)
      · exact .inl (.inl h)
      · exact .inr h
      · exact .inl (.inr h)
    · rintro ((h | h) | h)
      · exact .inl h
      · exact .inr (.inr h)
      · exact .inr (.inl h)
theorem l05Close_ok (H : List Blk) (n m : Nat) (a : AV) (gs : List (List Int)) (hn1 : 1 ≤ n) (hn : n ≤ 32) (hm1 : 1 ≤ m) (hm : m ≤ 720) (ha : aview H a = some (gs.length, gs.map ilS)) (hg : ∀ g ∈ gs, permOk n g) (hgl : gs.length ≤ 1000000) :
    ACalls Tryz.prog f_spec_l05Close [I n, a, I m] H (fun r H' => r = closAV (genL n gs m) ∧ H' = H) := by
  have hav : ∀ ext, aview (H ++ ext) a = some (gs.length, gs.map ilS) := fun ext => aview_append ha ext
  refine ACalls.introB s_spec_l05Close (by simp) ?_; intro hB hA; unfold c_spec_l05Close; simp (config := { maxSteps := 1000000 }) (disch := (first | omega | (simp only [go_sem]; try omega))) only [go_sem, Nat.reduceAdd, Nat.reduceEqDiff, Nat.reduceLeDiff, Nat.reduceMul, Nat.reduceLT, reduceIte, Int.reduceToNat, w64_id, cast_succ]
  have hab : ∀ k, H.length ≤ k → Bel k a := fun k hk => (hA a (by simp)).mono hk
  have hi1 := l04One64_fn n (by omega)
  repeat (first | (with_reducible first | refine SW.seq ?_ | refine SW.block ?_ | refine SW.rowC ?_ | refine SW.skip ?_ | refine SW.exit ?_ | refine PFn.use (hi1) ?_ | refine PFn.useq (hi1) ?_ | intro _ | refine And.intro (by omega) ?_) | simp (config := { maxSteps := 1000000 }) (disch := (first | omega | (simp only [go_sem]; try omega))) only [go_sem, Nat.reduceAdd, Nat.reduceEqDiff, Nat.reduceLeDiff, Nat.reduceMul, Nat.reduceLT, reduceIte, Int.reduceToNat, w64_id, cast_succ])
  refine SW.keepS (E' := [(1, a), (2, I m), (9, ilSS [idL n]), (10, .nm H.length 0 0 1), (11, I 0)]) (i := H.length + 1) (ver := 0) (ty := tyLL) (xss := [idL n]) hB (Nat.le_refl _) (by omega) (by simp) ?_ ?_
  · refine .cons _ (.old _ (hab _ (Nat.le_refl _))) (.cons _ (ren_I _) (.cons _ ?_ (.cons _ ?_ (.cons _ (ren_I _) .nil))))
    · exact ren_rowS (H := H ++ [(⟨0, tyLL, 1, [ilS (idL n)]⟩ : Blk), ⟨0, tyLL, 1, [ilS (idL n)]⟩]) (r := H.length) (ver := 0) (ty := tyLL) (xs := [idL n]) (Nat.le_refl _) (by simp) (by simp)
    · exact .nm 0 (H.length + 1) 0 0 1 ⟨0, tyLL, 1, [ilS (idL n)]⟩ rfl (by simp) rfl
  refine SW.loopE (fun E0 H0 q E' H' => ∃ (L : List (List Int)) (k ver : Nat), k ≤ L.length ∧ L.length ≤ m ∧ q = m + 1 - k ∧ E' = aput (aput (aput E0 11 (I k)) 10 (.nm H.length ver 0 L.length)) 9 (ilSS (sortU cmpL L)) ∧ H' = H ++ [⟨ver, tyLL, 1, L.map ilS⟩] ∧ L.Nodup ∧ (∀ p ∈ L, Gen n gs p) ∧ idL n ∈ L ∧ ∀ j, j < k → ∀ g ∈ gs, mul (L.getD j []) g ∈ L) (m + 1) ⟨[idL n], 0, 0, by simp, by simpa using hm1, by omega, rfl, rfl, by simp, by simpa using Gen.one, by simp, by omega⟩ ?_
  rintro q E' H' ⟨L, k, ver, hk, hLl, rfl, rfl, rfl, hnd, hgen, hone, hcl⟩
  simp (config := { maxSteps := 1000000 }) (disch := (first | omega | (simp only [go_sem]; try omega))) only [go_sem, Nat.reduceAdd, Nat.reduceEqDiff, Nat.reduceLeDiff, Nat.reduceMul, Nat.reduceLT, reduceIte, Int.reduceToNat, w64_id, cast_succ]
  repeat (first | (with_reducible first | refine SW.seq ?_ | refine SW.block ?_ | refine SW.rowC ?_ | refine SW.skip ?_ | refine SW.exit ?_ | intro _ | refine And.intro (by omega) ?_) | simp (config := { maxSteps := 1000000 }) (disch := (first | omega | (simp only [go_sem]; try omega))) only [go_sem, Nat.reduceAdd, Nat.reduceEqDiff, Nat.reduceLeDiff, Nat.reduceMul, Nat.reduceLT, reduceIte, Int.reduceToNat, w64_id, cast_succ])
  (first | refine SW.condD rfl (fun h2 => ?_) (fun h2 => ?_) | refine SW.condN rfl (fun h2 => ?_) (fun h2 => ?_) | refine SW.condNB rfl (fun h2 => ?_) (fun h2 => ?_) | refine SW.condB rfl (fun h2 => ?_) (fun h2 => ?_))
  · have hklt : k < L.length := by omega
    have hLk : permOk n (L.getD k []) := (hgen _ (by rw [List.getD_eq_getElem?_getD, List.getElem?_eq_getElem hklt]; exact List.getElem_mem _)).ok hg
    repeat (first | (with_reducible first | refine SW.seq ?_ | refine SW.block ?_ | refine SW.rowC ?_ | refine SW.skip ?_ | refine SW.exit ?_ | intro _ | refine And.intro (by omega) ?_) | simp (config := { maxSteps := 1000000 }) (disch := (first | omega | (simp only [go_sem]; try omega))) only [go_sem, Nat.reduceAdd, Nat.reduceEqDiff, Nat.reduceLeDiff, Nat.reduceMul, Nat.reduceLT, reduceIte, Int.reduceToNat, w64_id, cast_succ])
    refine SW.loopE (fun E0 H0 q E' H' => ∃ (L2 pre post : List (List Int)) (ver : Nat), gs = pre ++ post ∧ q = post.length ∧ E' = aput (aput (aput E0 12 (I pre.length)) 10 (.nm H.length ver 0 L2.length)) 9 (ilSS (sortU cmpL L2)) ∧ H' = H ++ [⟨ver, tyLL, 1, L2.map ilS⟩] ∧ L2.Nodup ∧ (∀ p ∈ L2, Gen n gs p) ∧ (∃ M, L2 = L ++ M) ∧ L2.length ≤ m ∧ ∀ g ∈ pre, mul (L.getD k []) g ∈ L2) gs.length ⟨L, [], gs, ver, rfl, rfl, rfl, rfl, hnd, hgen, ⟨[], by simp⟩, by omega, by simp⟩ ?_
    rintro q E' H' ⟨L2, pre, post, ver, hgp, rfl, rfl, rfl, hnd2, hgen2, ⟨M, hLM⟩, hl2, hpre⟩
    have hkL2 : L2.getD k [] = L.getD k [] := by
      rw [hLM, List.getD_eq_getElem?_getD, List.getD_eq_getElem?_getD, List.getElem?_append_left hklt]
    have hL2l : L.length ≤ L2.length := by rw [hLM]; simp
    have hprel : pre.length ≤ 1000000 := by rw [hgp] at hgl; simp at hgl; omega
    have hsl : (sortU cmpL L2).length = L2.length := (sortU_perm cmpL_tot hnd2).length_eq
    have hsa := sortU_asc cmpL_tot L2
    simp (config := { maxSteps := 1000000 }) (disch := (first | omega | (simp only [go_sem]; try omega))) only [go_sem, Nat.reduceAdd, Nat.reduceEqDiff, Nat.reduceLeDiff, Nat.reduceMul, Nat.reduceLT, reduceIte, Int.reduceToNat, w64_id, cast_succ]
    repeat (first | (with_reducible first | refine SW.seq ?_ | refine SW.block ?_ | refine SW.rowC ?_ | refine SW.skip ?_ | refine SW.exit ?_ | intro _ | refine And.intro (by omega) ?_) | simp (config := { maxSteps := 1000000 }) (disch := (first | omega | (simp only [go_sem]; try omega))) only [go_sem, Nat.reduceAdd, Nat.reduceEqDiff, Nat.reduceLeDiff, Nat.reduceMul, Nat.reduceLT, reduceIte, Int.reduceToNat, w64_id, cast_succ, hav])
    (first | refine SW.condD rfl (fun h3 => ?_) (fun h3 => ?_) | refine SW.condN rfl (fun h3 => ?_) (fun h3 => ?_) | refine SW.condNB rfl (fun h3 => ?_) (fun h3 => ?_) | refine SW.condB rfl (fun h3 => ?_) (fun h3 => ?_))
    · obtain ⟨g, post, rfl, hgg, -⟩ := consOf (d := []) hgp (by omega)
      have hgm : g ∈ gs := by rw [hgp]; simp
      have hcm := l04Times_fn n (L.getD k []) g (by omega) hLk (hg g hgm)
      have hmo := mul_ok hLk (hg g hgm)
      have hgs : Gen n gs (mul (L.getD k []) g) := .step _ g hgm (hgen _ (by rw [List.getD_eq_getElem?_getD, List.getElem?_eq_getElem hklt]; exact List.getElem_mem _))
      generalize hmm : mul (L.getD k []) g = p at *
      have hfd := l05Find_fn (sortU cmpL L2) p hsa (by omega)
      by_cases hpm : p ∈ L2
      · rw [decide_eq_true ((sortU_mem cmpL_tot L2 p).2 hpm)] at hfd
        repeat (first | (with_reducible first | refine SW.seq ?_ | refine SW.block ?_ | refine SW.rowC ?_ | refine SW.skip ?_ | refine SW.exit ?_ | refine PFn.use (hcm) ?_ | refine PFn.useq (hcm) ?_ | refine PFn.use (hfd) ?_ | refine PFn.useq (hfd) ?_ | intro _ | refine And.intro (by omega) ?_) | simp (config := { maxSteps := 1000000 }) (disch := (first | omega | (simp only [go_sem]; try omega))) only [go_sem, Nat.reduceAdd, Nat.reduceEqDiff, Nat.reduceLeDiff, Nat.reduceMul, Nat.reduceLT, reduceIte, Int.reduceToNat, w64_id, cast_succ, hav, hgg, hkL2])
        refine SW.condT rfl ?_
        repeat (first | (with_reducible first | refine SW.seq ?_ | refine SW.block ?_ | refine SW.rowC ?_ | refine SW.skip ?_ | refine SW.exit ?_ | intro _ | refine And.intro (by omega) ?_) | simp (config := { maxSteps := 1000000 }) (disch := (first | omega | (simp only [go_sem]; try omega))) only [go_sem, Nat.reduceAdd, Nat.reduceEqDiff, Nat.reduceLeDiff, Nat.reduceMul, Nat.reduceLT, reduceIte, Int.reduceToNat, w64_id, cast_succ])
        refine SLoop.next post.length (by simp) ⟨L2, pre ++ [g], post, ver, by simp [hgp], rfl, by simp [go_sem], rfl, hnd2, hgen2, ⟨M, hLM⟩, hl2, ?_⟩
        intro g' hg'
        rcases List.mem_append.1 hg' with h | h
        · exact hpre g' h
        · rw [List.mem_singleton.1 h, hmm]; exact hpm
      · have hps : p ∉ sortU cmpL L2 := fun h => hpm ((sortU_mem cmpL_tot L2 p).1 h)
        rw [decide_eq_false hps] at hfd
        have hnd3 : (L2 ++ [p]).Nodup := by
          rw [List.nodup_append]
          refine ⟨hnd2, by simp, fun a h1 b h2 => ?_⟩
          rw [List.mem_singleton.1 h2]
          rintro rfl
          exact hpm h1
        have hgen3 : ∀ q ∈ L2 ++ [p], Gen n gs q := by
          intro q hq
          rcases List.mem_append.1 hq with h | h
          · exact hgen2 q h
          · rw [List.mem_singleton.1 h]; exact hgs
        by_cases hfull : L2.length = m
        · have dd : decide (((L2.length : Nat) : Int) = (m : Int)) = true := decide_eq_true (by omega)
          repeat (first | (with_reducible first | refine SW.seq ?_ | refine SW.block ?_ | refine SW.rowC ?_ | refine SW.skip ?_ | refine SW.exit ?_ | refine PFn.use (hcm) ?_ | refine PFn.useq (hcm) ?_ | refine PFn.use (hfd) ?_ | refine PFn.useq (hfd) ?_ | intro _ | refine And.intro (by omega) ?_) | simp (config := { maxSteps := 1000000 }) (disch := (first | omega | (simp only [go_sem]; try omega))) only [go_sem, Nat.reduceAdd, Nat.reduceEqDiff, Nat.reduceLeDiff, Nat.reduceMul, Nat.reduceLT, reduceIte, Int.reduceToNat, w64_id, cast_succ, hav, hgg, hkL2, hsl, dd])
          refine SW.condF rfl ?_
          repeat (first | (with_reducible first | refine SW.seq ?_ | refine SW.block ?_ | refine SW.rowC ?_ | refine SW.skip ?_ | refine SW.exit ?_ | intro _ | refine And.intro (by omega) ?_) | simp (config := { maxSteps := 1000000 }) (disch := (first | omega | (simp only [go_sem]; try omega))) only [go_sem, Nat.reduceAdd, Nat.reduceEqDiff, Nat.reduceLeDiff, Nat.reduceMul, Nat.reduceLT, reduceIte, Int.reduceToNat, w64_id, cast_succ, hsl, dd])
          refine SW.condT rfl ?_
          repeat (first | (with_reducible first | refine SW.seq ?_ | refine SW.block ?_ | refine SW.rowC ?_ | refine SW.skip ?_ | refine SW.exit ?_ | intro _ | refine And.intro (by omega) ?_) | simp (config := { maxSteps := 1000000 }) (disch := (first | omega | (simp only [go_sem]; try omega))) only [go_sem, Nat.reduceAdd, Nat.reduceEqDiff, Nat.reduceLeDiff, Nat.reduceMul, Nat.reduceLT, reduceIte, Int.reduceToNat, w64_id, cast_succ])
          refine SW.ret ?_; (try simp only [go_sem]); (first | refine FunPost.one ?_ | refine FunPost.two ?_ | refine FunPost.three ?_); (try simp (config := { maxSteps := 1000000 }) (disch := (first | omega | (simp only [go_sem]; try omega))) only [go_sem, Nat.reduceAdd, Nat.reduceEqDiff, Nat.reduceLeDiff, Nat.reduceMul, Nat.reduceLT, reduceIte, Int.reduceToNat, w64_id, cast_succ])
          rw [genL_none hnd3 hgen3 (by simp; omega)]
          exact GR.froz (r' := .tup [ilSS [], Bv false]) (froz_tup2 .nil (.old _ (.lit _))) ⟨rfl, rfl⟩
        · have dd : decide (((L2.length : Nat) : Int) = (m : Int)) = false := decide_eq_false (by omega)
          have hput := l05Put_fn (sortU cmpL L2) p (cntL (sortU cmpL L2) p) (cntL_le _ _) (by omega)
          rw [put_is hsa hps, ← sortU_snoc] at hput
          have htl : (L2.map ilS).take L2.length = L2.map ilS := List.take_of_length_le (by simp)
          repeat (first | (with_reducible first | refine SW.seq ?_ | refine SW.block ?_ | refine SW.rowC ?_ | refine SW.skip ?_ | refine SW.exit ?_ | refine PFn.use (hcm) ?_ | refine PFn.useq (hcm) ?_ | refine PFn.use (hfd) ?_ | refine PFn.useq (hfd) ?_ | intro _ | refine And.intro (by omega) ?_) | simp (config := { maxSteps := 1000000 }) (disch := (first | omega | (simp only [go_sem]; try omega))) only [go_sem, Nat.reduceAdd, Nat.reduceEqDiff, Nat.reduceLeDiff, Nat.reduceMul, Nat.reduceLT, reduceIte, Int.reduceToNat, w64_id, cast_succ, hav, hgg, hkL2, hsl, dd])
          refine SW.condF rfl ?_
          repeat (first | (with_reducible first | refine SW.seq ?_ | refine SW.block ?_ | refine SW.rowC ?_ | refine SW.skip ?_ | refine SW.exit ?_ | intro _ | refine And.intro (by omega) ?_) | simp (config := { maxSteps := 1000000 }) (disch := (first | omega | (simp only [go_sem]; try omega))) only [go_sem, Nat.reduceAdd, Nat.reduceEqDiff, Nat.reduceLeDiff, Nat.reduceMul, Nat.reduceLT, reduceIte, Int.reduceToNat, w64_id, cast_succ, hsl, dd])
          refine SW.condF rfl ?_
          repeat (first | (with_reducible first | refine SW.seq ?_ | refine SW.block ?_ | refine SW.rowC ?_ | refine SW.skip ?_ | refine SW.exit ?_ | refine PFn.use (hput) ?_ | refine PFn.useq (hput) ?_ | intro _ | refine And.intro (by omega) ?_) | simp (config := { maxSteps := 1000000 }) (disch := (first | omega | (simp only [go_sem]; try omega))) only [go_sem, Nat.reduceAdd, Nat.reduceEqDiff, Nat.reduceLeDiff, Nat.reduceMul, Nat.reduceLT, reduceIte, Int.reduceToNat, w64_id, cast_succ, htl])
          refine SLoop.nextT 1 post.length hB (by omega) (by simp) (by simp) ?_ ?_ ⟨L2 ++ [p], pre ++ [g], post, ver + 1, by simp [hgp], rfl, ?_, ?_, hnd3, hgen3, ⟨M ++ [p], by rw [hLM]; simp⟩, by simp; omega, ?_⟩
          · have hab2 := hab (H.length + 1) (by omega)
            (simp only [go_sem, Nat.reduceAdd, Nat.reduceEqDiff, reduceIte, go_sem, and_self, and_true, true_and, implies_true, List.take_succ_cons, List.take_zero, and_true, true_and, hab2]; try omega)
          · simp only [List.take_succ_cons, List.take_zero, BB_cons, BB_nil, and_true]
            intro c hc
            obtain ⟨x, _, rfl⟩ := List.mem_map.1 hc
            rw [Bel_ilS]; trivial
          · simp [go_sem]
          · simp
          · intro g' hg'
            rcases List.mem_append.1 hg' with h | h
            · exact List.mem_append_left _ (hpre g' h)
            · rw [List.mem_singleton.1 h, hmm]; simp
    · obtain ⟨rfl, rfl⟩ := nilOf hgp (by omega)
      repeat (first | (with_reducible first | refine SW.seq ?_ | refine SW.block ?_ | refine SW.rowC ?_ | refine SW.skip ?_ | refine SW.exit ?_ | intro _ | refine And.intro (by omega) ?_) | simp (config := { maxSteps := 1000000 }) (disch := (first | omega | (simp only [go_sem]; try omega))) only [go_sem, Nat.reduceAdd, Nat.reduceEqDiff, Nat.reduceLeDiff, Nat.reduceMul, Nat.reduceLT, reduceIte, Int.reduceToNat, w64_id, cast_succ])
      refine SLoop.next (m + 1 - (k + 1)) (by omega) ⟨L2, k + 1, ver, by omega, by omega, rfl, by simp [go_sem], rfl, hnd2, hgen2, by rw [hLM]; exact List.mem_append_left _ hone, ?_⟩
      intro j hj g hgm
      rcases Nat.lt_or_eq_of_le (Nat.le_of_lt_succ hj) with h5 | rfl
      · have e : L2.getD j [] = L.getD j [] := by
          rw [hLM, List.getD_eq_getElem?_getD, List.getD_eq_getElem?_getD, List.getElem?_append_left (by omega)]
        rw [e, hLM]
        exact List.mem_append_left _ (hcl j h5 g hgm)
      · rw [hkL2]; exact hpre g hgm
  · have hkL : k = L.length := by omega
    subst hkL
    have hG : GenList n gs (sortU cmpL L) := by
      refine ⟨sortU_asc cmpL_tot _, fun p => ?_⟩
      rw [sortU_mem cmpL_tot]
      refine ⟨hgen p, fun h => ?_⟩
      induction h with
      | one => exact hone
      | step p g hgm _ ih =>
        obtain ⟨j, hj, he⟩ := List.getElem_of_mem ih
        have := hcl j hj g hgm
        rw [List.getD_eq_getElem?_getD, List.getElem?_eq_getElem hj] at this
        simp only [Option.getD_some, he] at this
        exact this
    have hGl : (sortU cmpL L).length ≤ m := Nat.le_trans (sortU_len (cf := cmpL) L) hLl
    rw [genL_some hG hGl]
    repeat (first | (with_reducible first | refine SW.seq ?_ | refine SW.block ?_ | refine SW.rowC ?_ | refine SW.skip ?_ | refine SW.exit ?_ | intro _ | refine And.intro (by omega) ?_) | simp (config := { maxSteps := 1000000 }) (disch := (first | omega | (simp only [go_sem]; try omega))) only [go_sem, Nat.reduceAdd, Nat.reduceEqDiff, Nat.reduceLeDiff, Nat.reduceMul, Nat.reduceLT, reduceIte, Int.reduceToNat, w64_id, cast_succ])
    refine SW.ret ?_; (try simp only [go_sem]); (first | refine FunPost.one ?_ | refine FunPost.two ?_ | refine FunPost.three ?_); (try simp (config := { maxSteps := 1000000 }) (disch := (first | omega | (simp only [go_sem]; try omega))) only [go_sem, Nat.reduceAdd, Nat.reduceEqDiff, Nat.reduceLeDiff, Nat.reduceMul, Nat.reduceLT, reduceIte, Int.reduceToNat, w64_id, cast_succ])
    refine GR.drop ?_ ⟨rfl, rfl⟩
    simp [go_sem]
end Go.Proofs.YtkifdjjnbplghaaGreat
namespace Go.Proofs.YtkifdjjnbplghaaGreat
open Go.Av
theorem l00SameV_ok (H : List Blk) (a b : AV) (xs ys : List Int) (ha : RdS H a xs) (hb : RdS H b ys) :
    ACalls Tryz.prog f_spec_l00Same [a, b] H (fun r H' => r = Bv (decide (xs = ys)) ∧ H' = H) := eqS_of s_spec_l00Same H a b xs ys ha hb
theorem l10SameV_fn (xs ys : List (List Int)) : PFn Tryz.prog f_spec_l10Same [ilSS xs, ilSS ys] (Bv (decide (xs = ys))) := fun H => eqSS_of s_spec_l10Same l00SameV_ok H _ _ xs ys (rd_ilSS _ _) (rd_ilSS _ _)
theorem l00OwnV_fn (xs : List Int) (hl : xs.length ≤ 2000000) : PFn Tryz.prog f_spec_l00Own [ilS xs] (ilS xs) := by
  intro H; refine ACalls.introB s_spec_l00Own (by simp) ?_; intro hB hA; unfold c_spec_l00Own; simp (config := { maxSteps := 1000000 }) (disch := (first | omega | (simp only [go_sem]; try omega))) only [go_sem, Nat.reduceAdd, Nat.reduceEqDiff, Nat.reduceLeDiff, Nat.reduceMul, Nat.reduceLT, reduceIte, Int.reduceToNat, w64_id, cast_succ]
  repeat (first | (with_reducible first | refine SW.seq ?_ | refine SW.block ?_ | refine SW.rowC ?_ | refine SW.skip ?_ | refine SW.exit ?_ | intro _ | refine And.intro (by omega) ?_) | simp (config := { maxSteps := 1000000 }) (disch := (first | omega | (simp only [go_sem]; try omega))) only [go_sem, Nat.reduceAdd, Nat.reduceEqDiff, Nat.reduceLeDiff, Nat.reduceMul, Nat.reduceLT, reduceIte, Int.reduceToNat, w64_id, cast_succ])
  refine SW.ret ?_; (try simp only [go_sem]); (first | refine FunPost.one ?_ | refine FunPost.two ?_ | refine FunPost.three ?_); (try simp (config := { maxSteps := 1000000 }) (disch := (first | omega | (simp only [go_sem]; try omega))) only [go_sem, Nat.reduceAdd, Nat.reduceEqDiff, Nat.reduceLeDiff, Nat.reduceMul, Nat.reduceLT, reduceIte, Int.reduceToNat, w64_id, cast_succ])
  exact GR.froz (froz_rowI (r := H.length) (ver := 1) (ty := 2) (Nat.le_refl _) (by simp)) ⟨rfl, rfl⟩
open Classical in
noncomputable def closB (n : Nat) (els : List (List Int)) : Bool := decide (Closed n els)
theorem closB_t {n : Nat} {els : List (List Int)} : closB n els = true ↔ Closed n els := by unfold closB; simp
theorem closB_f {n : Nat} {els : List (List Int)} : closB n els = false ↔ ¬ Closed n els := by unfold closB; simp
theorem l05Generators_ok (H : List Blk) (n : Nat) (els : List (List Int)) (hn1 : 1 ≤ n) (hn : n ≤ 32) (hp : ∀ p ∈ els, permOk n p) (hl1 : 1 ≤ els.length) (hl : els.length ≤ 720) (hasc : Asc cmpL els) :
    ACalls Tryz.prog f_spec_l05Generators [I n, ilSS els] H (fun r H' => ∃ G : List (List Int), r = .tup [ilSS G, Bv (closB n els)] ∧ H' = H) := by
  refine ACalls.introB s_spec_l05Generators (by simp) ?_; intro hB hA; unfold c_spec_l05Generators; simp (config := { maxSteps := 1000000 }) (disch := (first | omega | (simp only [go_sem]; try omega))) only [go_sem, Nat.reduceAdd, Nat.reduceEqDiff, Nat.reduceLeDiff, Nat.reduceMul, Nat.reduceLT, reduceIte, Int.reduceToNat, w64_id, cast_succ]
  repeat (first | (with_reducible first | refine SW.seq ?_ | refine SW.block ?_ | refine SW.rowC ?_ | refine SW.skip ?_ | refine SW.exit ?_ | intro _ | refine And.intro (by omega) ?_) | simp (config := { maxSteps := 1000000 }) (disch := (first | omega | (simp only [go_sem]; try omega))) only [go_sem, Nat.reduceAdd, Nat.reduceEqDiff, Nat.reduceLeDiff, Nat.reduceMul, Nat.reduceLT, reduceIte, Int.reduceToNat, w64_id, cast_succ])
  have hc0 := l05Close_ok (H ++ [(⟨0, tyLL, 1, []⟩ : Blk)]) n 1 (.nm H.length 0 0 0) [] hn1 hn (by omega) (by omega) (view_nm (ver := 0) (ty := tyLL) (cells := []) (by simp) rfl) (by simp) (by simp)
  rw [genL_some (genList_nil n) (show [idL n].length ≤ 1 by simp)] at hc0
  refine ACalls.fn hc0 ?_
  simp only [closAV]
  repeat (first | (with_reducible first | refine SW.seq ?_ | refine SW.block ?_ | refine SW.rowC ?_ | refine SW.skip ?_ | refine SW.exit ?_ | intro _ | refine And.intro (by omega) ?_) | simp (config := { maxSteps := 1000000 }) (disch := (first | omega | (simp only [go_sem]; try omega))) only [go_sem, Nat.reduceAdd, Nat.reduceEqDiff, Nat.reduceLeDiff, Nat.reduceMul, Nat.reduceLT, reduceIte, Int.reduceToNat, w64_id, cast_succ])
  refine SW.loopE (fun E0 H0 q E' H' => ∃ (pre post G A : List (List Int)) (ver : Nat), els = pre ++ post ∧ q = post.length ∧ E' = aput (aput (aput E0 9 (I pre.length)) 6 (.nm H.length ver 0 G.length)) 7 (ilSS A) ∧ H' = H ++ [⟨ver, tyLL, 1, G.map ilS⟩] ∧ (∀ g ∈ G, g ∈ pre) ∧ G.length ≤ pre.length ∧ GenList n G A ∧ A.length ≤ els.length ∧ (∀ p ∈ pre, p ∈ A)) els.length ⟨[], els, [], [idL n], 0, rfl, rfl, rfl, rfl, by simp, by simp, genList_nil n, by simpa using hl1, by simp⟩ ?_
  rintro q E' H' ⟨pre, post, G, A, ver, hpp, rfl, rfl, rfl, hGp, hGl, hGL, hAl, hAp⟩
  have hprl : pre.length ≤ 720 := by rw [hpp] at hl; simp at hl; omega
  simp (config := { maxSteps := 1000000 }) (disch := (first | omega | (simp only [go_sem]; try omega))) only [go_sem, Nat.reduceAdd, Nat.reduceEqDiff, Nat.reduceLeDiff, Nat.reduceMul, Nat.reduceLT, reduceIte, Int.reduceToNat, w64_id, cast_succ]
  repeat (first | (with_reducible first | refine SW.seq ?_ | refine SW.block ?_ | refine SW.rowC ?_ | refine SW.skip ?_ | refine SW.exit ?_ | intro _ | refine And.intro (by omega) ?_) | simp (config := { maxSteps := 1000000 }) (disch := (first | omega | (simp only [go_sem]; try omega))) only [go_sem, Nat.reduceAdd, Nat.reduceEqDiff, Nat.reduceLeDiff, Nat.reduceMul, Nat.reduceLT, reduceIte, Int.reduceToNat, w64_id, cast_succ])
  (first | refine SW.condD rfl (fun h2 => ?_) (fun h2 => ?_) | refine SW.condN rfl (fun h2 => ?_) (fun h2 => ?_) | refine SW.condNB rfl (fun h2 => ?_) (fun h2 => ?_) | refine SW.condB rfl (fun h2 => ?_) (fun h2 => ?_))
  · obtain ⟨p, post, rfl, hgp, -⟩ := consOf (d := []) hpp (by omega)
    have hpm : p ∈ els := by rw [hpp]; simp
    have hpo := hp p hpm
    have hfd := l05Find_fn A p hGL.1 (by omega)
    have hab : Bel (H.length + 1) (ilSS els) := by rw [Bel_ilSS]; trivial
    have htl : (G.map ilS).take G.length = G.map ilS := List.take_of_length_le (by simp)
    have hGB : ∀ (G : List (List Int)) (c : AV), c ∈ G.map ilS → Bel (H.length + 1) c := fun G c hc => by
      obtain ⟨x, _, rfl⟩ := List.mem_map.1 hc
      rw [Bel_ilS]; trivial
    by_cases hm : p ∈ A
    · have dd := decide_eq_true hm
      repeat (first | (with_reducible first | refine SW.seq ?_ | refine SW.block ?_ | refine SW.rowC ?_ | refine SW.skip ?_ | refine SW.exit ?_ | refine PFn.use (hfd) ?_ | refine PFn.useq (hfd) ?_ | intro _ | refine And.intro (by omega) ?_) | simp (config := { maxSteps := 1000000 }) (disch := (first | omega | (simp only [go_sem]; try omega))) only [go_sem, Nat.reduceAdd, Nat.reduceEqDiff, Nat.reduceLeDiff, Nat.reduceMul, Nat.reduceLT, reduceIte, Int.reduceToNat, w64_id, cast_succ, hgp, dd])
      refine SW.condT rfl ?_
      repeat (first | (with_reducible first | refine SW.seq ?_ | refine SW.block ?_ | refine SW.rowC ?_ | refine SW.skip ?_ | refine SW.exit ?_ | intro _ | refine And.intro (by omega) ?_) | simp (config := { maxSteps := 1000000 }) (disch := (first | omega | (simp only [go_sem]; try omega))) only [go_sem, Nat.reduceAdd, Nat.reduceEqDiff, Nat.reduceLeDiff, Nat.reduceMul, Nat.reduceLT, reduceIte, Int.reduceToNat, w64_id, cast_succ])
      refine SLoop.next post.length (by simp) ⟨pre ++ [p], post, G, A, ver, by simp [hpp], rfl, by simp [go_sem], rfl, fun g hg => List.mem_append_left _ (hGp g hg), by simp; omega, hGL, hAl, fun q hq => ?_⟩
      rcases List.mem_append.1 hq with h | h
      · exact hAp q h
      · rw [List.mem_singleton.1 h]; exact hm
    · have dd := decide_eq_false hm
      have how := l00OwnV_fn p (by rw [hpo.1]; omega)
      have hgo : ∀ g ∈ G ++ [p], permOk n g := fun g hg => by
        rcases List.mem_append.1 hg with h | h
        · exact hp g (by rw [hpp]; exact List.mem_append_left _ (hGp g h))
        · rw [List.mem_singleton.1 h]; exact hpo
      repeat (first | (with_reducible first | refine SW.seq ?_ | refine SW.block ?_ | refine SW.rowC ?_ | refine SW.skip ?_ | refine SW.exit ?_ | refine PFn.use (hfd) ?_ | refine PFn.useq (hfd) ?_ | intro _ | refine And.intro (by omega) ?_) | simp (config := { maxSteps := 1000000 }) (disch := (first | omega | (simp only [go_sem]; try omega))) only [go_sem, Nat.reduceAdd, Nat.reduceEqDiff, Nat.reduceLeDiff, Nat.reduceMul, Nat.reduceLT, reduceIte, Int.reduceToNat, w64_id, cast_succ, hgp, dd])
      refine SW.condF rfl ?_
      repeat (first | (with_reducible first | refine SW.seq ?_ | refine SW.block ?_ | refine SW.rowC ?_ | refine SW.skip ?_ | refine SW.exit ?_ | refine PFn.use (how) ?_ | refine PFn.useq (how) ?_ | intro _ | refine And.intro (by omega) ?_) | simp (config := { maxSteps := 1000000 }) (disch := (first | omega | (simp only [go_sem]; try omega))) only [go_sem, Nat.reduceAdd, Nat.reduceEqDiff, Nat.reduceLeDiff, Nat.reduceMul, Nat.reduceLT, reduceIte, Int.reduceToNat, w64_id, cast_succ, hgp, htl])
      have hview : aview (H ++ [(⟨ver + 1, tyLL, 1, (G ++ [p]).map ilS⟩ : Blk), ⟨0, tyLL, 1, [ilS p]⟩]) (.nm H.length (ver + 1) 0 (G.length + 1)) = some ((G ++ [p]).length, (G ++ [p]).map ilS) := by
        have := view_nm (H := H ++ [(⟨ver + 1, tyLL, 1, (G ++ [p]).map ilS⟩ : Blk), ⟨0, tyLL, 1, [ilS p]⟩]) (r := H.length) (ver := ver + 1) (ty := tyLL) (cells := (G ++ [p]).map ilS) (n := G.length + 1) (by simp) (by simp)
        rw [this]; simp
      refine ACalls.fn (l05Close_ok _ n els.length _ (G ++ [p]) hn1 hn hl1 hl hview hgo (by simp; omega)) ?_
      have hG' : (∀ g ∈ G ++ [p], g ∈ pre ++ [p]) ∧ (G ++ [p]).length ≤ (pre ++ [p]).length := by
        refine ⟨fun g hg => ?_, by simp; omega⟩
        rcases List.mem_append.1 hg with h | h
        · exact List.mem_append_left _ (hGp g h)
        · exact List.mem_append_right _ h
      have hsub : ∀ g ∈ G ++ [p], g ∈ els := fun g hg => by
        have := hG'.1 g hg
        rw [hpp]
        rcases List.mem_append.1 this with h | h
        · exact List.mem_append_left _ h
        · rw [List.mem_singleton.1 h]; simp
      cases hgn : genL n (G ++ [p]) els.length with
      | none =>
        simp only [closAV]
        repeat (first | (with_reducible first | refine SW.seq ?_ | refine SW.block ?_ | refine SW.rowC ?_ | refine SW.skip ?_ | refine SW.exit ?_ | intro _ | refine And.intro (by omega) ?_) | simp (config := { maxSteps := 1000000 }) (disch := (first | omega | (simp only [go_sem]; try omega))) only [go_sem, Nat.reduceAdd, Nat.reduceEqDiff, Nat.reduceLeDiff, Nat.reduceMul, Nat.reduceLT, reduceIte, Int.reduceToNat, w64_id, cast_succ])
        refine SW.condT rfl ?_
        repeat (first | (with_reducible first | refine SW.seq ?_ | refine SW.block ?_ | refine SW.rowC ?_ | refine SW.skip ?_ | refine SW.exit ?_ | intro _ | refine And.intro (by omega) ?_) | simp (config := { maxSteps := 1000000 }) (disch := (first | omega | (simp only [go_sem]; try omega))) only [go_sem, Nat.reduceAdd, Nat.reduceEqDiff, Nat.reduceLeDiff, Nat.reduceMul, Nat.reduceLT, reduceIte, Int.reduceToNat, w64_id, cast_succ])
        refine SW.ret ?_; (try simp only [go_sem]); (first | refine FunPost.one ?_ | refine FunPost.two ?_ | refine FunPost.three ?_); (try simp (config := { maxSteps := 1000000 }) (disch := (first | omega | (simp only [go_sem]; try omega))) only [go_sem, Nat.reduceAdd, Nat.reduceEqDiff, Nat.reduceLeDiff, Nat.reduceMul, Nat.reduceLT, reduceIte, Int.reduceToNat, w64_id, cast_succ])
        have hF : closB n els = false := closB_f.2 fun hc => by
          obtain ⟨L, hL, _⟩ := closed_small hc hasc hsub (Nat.le_refl _)
          rw [hgn] at hL; cases hL
        rw [hF]
        exact GR.froz (r' := .tup [ilSS [], Bv false]) (froz_tup2 .nil (.old _ (.lit _))) ⟨[], rfl, rfl⟩
      | some A2 =>
        have hGL2 := genL_inv hgn
        simp only [closAV]
        repeat (first | (with_reducible first | refine SW.seq ?_ | refine SW.block ?_ | refine SW.rowC ?_ | refine SW.skip ?_ | refine SW.exit ?_ | intro _ | refine And.intro (by omega) ?_) | simp (config := { maxSteps := 1000000 }) (disch := (first | omega | (simp only [go_sem]; try omega))) only [go_sem, Nat.reduceAdd, Nat.reduceEqDiff, Nat.reduceLeDiff, Nat.reduceMul, Nat.reduceLT, reduceIte, Int.reduceToNat, w64_id, cast_succ])
        refine SW.condF rfl ?_
        repeat (first | (with_reducible first | refine SW.seq ?_ | refine SW.block ?_ | refine SW.rowC ?_ | refine SW.skip ?_ | refine SW.exit ?_ | intro _ | refine And.intro (by omega) ?_) | simp (config := { maxSteps := 1000000 }) (disch := (first | omega | (simp only [go_sem]; try omega))) only [go_sem, Nat.reduceAdd, Nat.reduceEqDiff, Nat.reduceLeDiff, Nat.reduceMul, Nat.reduceLT, reduceIte, Int.reduceToNat, w64_id, cast_succ])
        refine SLoop.nextT 1 post.length hB (by omega) (by simp) (by simp) ?_ ?_ ⟨pre ++ [p], post, G ++ [p], A2, ver + 1, by simp [hpp], rfl, by simp [go_sem], rfl, hG'.1, hG'.2, hGL2.1, hGL2.2, fun q hq => ?_⟩
        · (simp only [go_sem, Nat.reduceAdd, Nat.reduceEqDiff, reduceIte, go_sem, and_self, and_true, true_and, implies_true, List.take_succ_cons, List.take_zero, and_true, true_and]; try omega)
        · simp only [List.take_succ_cons, List.take_zero, BB_cons, BB_nil, and_true]
          exact hGB _
        · rw [hGL2.1.2]
          rcases List.mem_append.1 hq with h | h
          · exact Gen.mono (fun g hg => List.mem_append_left _ hg) ((hGL.2 q).1 (hAp q h))
          · rw [List.mem_singleton.1 h]; exact Gen.gen hpo (by simp)
  · obtain ⟨rfl, rfl⟩ := nilOf hpp (by omega)
    have hsm := l10SameV_fn A pre
    have hci := closed_iff hp hasc hGp hGL hAp
    have hd : decide (A = pre) = closB n pre := by
      rw [Bool.eq_iff_iff, decide_eq_true_eq, closB_t]
      constructor
      · rintro rfl
        exact hci.2 rfl
      · intro hc
        exact asc_uniq cmpL_tot hGL.1 hasc (fun p => ⟨fun h => hc p (((hGL.2 p).1 h).mono hGp), hAp p⟩)
    rw [hd] at hsm
    repeat (first | (with_reducible first | refine SW.seq ?_ | refine SW.block ?_ | refine SW.rowC ?_ | refine SW.skip ?_ | refine SW.exit ?_ | refine PFn.use (hsm) ?_ | refine PFn.useq (hsm) ?_ | intro _ | refine And.intro (by omega) ?_) | simp (config := { maxSteps := 1000000 }) (disch := (first | omega | (simp only [go_sem]; try omega))) only [go_sem, Nat.reduceAdd, Nat.reduceEqDiff, Nat.reduceLeDiff, Nat.reduceMul, Nat.reduceLT, reduceIte, Int.reduceToNat, w64_id, cast_succ])
    refine SW.ret ?_; (try simp only [go_sem]); (first | refine FunPost.one ?_ | refine FunPost.two ?_ | refine FunPost.three ?_); (try simp (config := { maxSteps := 1000000 }) (disch := (first | omega | (simp only [go_sem]; try omega))) only [go_sem, Nat.reduceAdd, Nat.reduceEqDiff, Nat.reduceLeDiff, Nat.reduceMul, Nat.reduceLT, reduceIte, Int.reduceToNat, w64_id, cast_succ])
    refine GR.froz (r' := .tup [ilSS G, Bv (closB n pre)]) (froz_tup2 ?_ (.old _ (.lit _))) ⟨G, rfl, rfl⟩
    exact froz_rowsS (ver := ver) (ty := tyLL) (by omega) (by simp)
end Go.Proofs.YtkifdjjnbplghaaGreat
namespace Go.Proofs.YtkifdjjnbplghaaGreat
open Go.Av
theorem junk1 {P : Program} {f : FuncId} {args : List AV} {H : List Blk} {b : AV} (h : ACalls P f args H (fun r H' => ∃ x, r = .tup [x, b] ∧ H' = H)) : ACalls P f args H (fun r H' => r = .tup [.junk, b] ∧ H' = H) := by
  intro B W0 F m w vs hr hs
  refine (h B W0 F m w vs hr hs).mono ?_
  rintro e w' ⟨F', m', H', r, v, rfl, g1, g2, g3, g4, x, rfl, rfl⟩
  refine ⟨F', m', _, .tup [.junk, b], v, rfl, g1, g2, ?_, g4, rfl, rfl⟩
  cases g3 with
  | tup _ us h1 h2 =>
    refine .tup _ us h1 (fun j c u hc hu => ?_)
    match j with
    | 0 => simp at hc; subst hc; exact .junk _
    | 1 => simp at hc; subst hc; exact h2 1 b u rfl hu
    | j + 2 => simp at hc
theorem l05Generators_fn (n : Nat) (els : List (List Int)) (hn1 : 1 ≤ n) (hn : n ≤ 32) (hp : ∀ p ∈ els, permOk n p) (hl1 : 1 ≤ els.length) (hl : els.length ≤ 720) (hasc : Asc cmpL els) :
    PFn Tryz.prog f_spec_l05Generators [I n, ilSS els] (.tup [.junk, Bv (closB n els)]) := fun H =>
  junk1 ((l05Generators_ok H n els hn1 hn hp hl1 hl hasc).mono fun r H' ⟨G, h1, h2⟩ => ⟨ilSS G, h1, h2⟩)
theorem grpB_clos {n : Int} {els : List (List Int)} (c1 : 1 ≤ n ∧ n ≤ 32) (c2 : 1 ≤ els.length ∧ els.length ≤ 720) (c4 : ∀ p ∈ els, permOk n.toNat p) (ha : Asc cmpL els) : grpB n els = closB n.toNat els := by
  rw [Bool.eq_iff_iff, grpB_t, closB_t]
  exact ⟨fun h => h.2.2.2.2, fun h => ⟨c1, c2, c4, ha, h⟩⟩
theorem l05Ok_ok (H : List Blk) (p : Nat) (n : Int) (els : List (List Int)) (hp : H[p]? = some ⟨0, tyG, 1, [I n, ilSS els]⟩) :
    ACalls Tryz.prog f_spec_l05Ok [.pc p 0 0] H (fun r H' => r = Bv (grpB n els) ∧ H' = H) := by
  have hpa := fun (o : Nat) => pc_alive (off := o) hp
  have hpl := fun (o : Nat) => pc_ld (off := o) hp
  have hw := l00In_fn n 1 32
  by_cases c1 : 1 ≤ n ∧ n ≤ 32
  rotate_left
  · have hF : grpB n els = false := grpB_f.2 fun h => c1 h.1
    rw [show (decide (1 ≤ n) && decide (n ≤ 32)) = false by rw [Bool.and_eq_false_iff, decide_eq_false_iff_not, decide_eq_false_iff_not]; omega] at hw
    refine ACalls.introB s_spec_l05Ok (by simp) ?_; intro hB hA; unfold c_spec_l05Ok; simp (config := { maxSteps := 1000000 }) (disch := (first | omega | (simp only [go_sem]; try omega))) only [go_sem, Nat.reduceAdd, Nat.reduceEqDiff, Nat.reduceLeDiff, Nat.reduceMul, Nat.reduceLT, reduceIte, Int.reduceToNat, w64_id, cast_succ]
    repeat (first | (with_reducible first | refine SW.seq ?_ | refine SW.block ?_ | refine SW.rowC ?_ | refine SW.skip ?_ | refine SW.exit ?_ | refine PFn.use (hw) ?_ | refine PFn.useq (hw) ?_ | intro _ | refine And.intro (by omega) ?_) | simp (config := { maxSteps := 1000000 }) (disch := (first | omega | (simp only [go_sem]; try omega))) only [go_sem, Nat.reduceAdd, Nat.reduceEqDiff, Nat.reduceLeDiff, Nat.reduceMul, Nat.reduceLT, reduceIte, Int.reduceToNat, w64_id, cast_succ, hpa, hpl])
    refine SW.condT rfl ?_
    repeat (first | (with_reducible first | refine SW.seq ?_ | refine SW.block ?_ | refine SW.rowC ?_ | refine SW.skip ?_ | refine SW.exit ?_ | intro _ | refine And.intro (by omega) ?_) | simp (config := { maxSteps := 1000000 }) (disch := (first | omega | (simp only [go_sem]; try omega))) only [go_sem, Nat.reduceAdd, Nat.reduceEqDiff, Nat.reduceLeDiff, Nat.reduceMul, Nat.reduceLT, reduceIte, Int.reduceToNat, w64_id, cast_succ])
    refine SW.ret ?_; (try simp only [go_sem]); (first | refine FunPost.one ?_ | refine FunPost.two ?_ | refine FunPost.three ?_); (try simp (config := { maxSteps := 1000000 }) (disch := (first | omega | (simp only [go_sem]; try omega))) only [go_sem, Nat.reduceAdd, Nat.reduceEqDiff, Nat.reduceLeDiff, Nat.reduceMul, Nat.reduceLT, reduceIte, Int.reduceToNat, w64_id, cast_succ]); (first | (with_reducible refine GR.drop ?_ ?_; (simp only [go_sem, and_self, and_true, true_and, implies_true, List.take_succ_cons, List.take_zero])) | refine GR.of ?_); refine ⟨?_, rfl⟩; (try with_reducible rfl)
    rw [hF]
  rw [show (decide (1 ≤ n) && decide (n ≤ 32)) = true by rw [Bool.and_eq_true, decide_eq_true_eq, decide_eq_true_eq]; omega] at hw
  by_cases c2 : 1 ≤ els.length
  rotate_left
  · have hF : grpB n els = false := grpB_f.2 fun h => c2 h.2.1.1
    have d2 : decide ((els.length : Int) = 0) = true := decide_eq_true (by omega)
    refine ACalls.introB s_spec_l05Ok (by simp) ?_; intro hB hA; unfold c_spec_l05Ok; simp (config := { maxSteps := 1000000 }) (disch := (first | omega | (simp only [go_sem]; try omega))) only [go_sem, Nat.reduceAdd, Nat.reduceEqDiff, Nat.reduceLeDiff, Nat.reduceMul, Nat.reduceLT, reduceIte, Int.reduceToNat, w64_id, cast_succ]
    repeat (first | (with_reducible first | refine SW.seq ?_ | refine SW.block ?_ | refine SW.rowC ?_ | refine SW.skip ?_ | refine SW.exit ?_ | refine PFn.use (hw) ?_ | refine PFn.useq (hw) ?_ | intro _ | refine And.intro (by omega) ?_) | simp (config := { maxSteps := 1000000 }) (disch := (first | omega | (simp only [go_sem]; try omega))) only [go_sem, Nat.reduceAdd, Nat.reduceEqDiff, Nat.reduceLeDiff, Nat.reduceMul, Nat.reduceLT, reduceIte, Int.reduceToNat, w64_id, cast_succ, hpa, hpl, d2])
    refine SW.condT rfl ?_
    repeat (first | (with_reducible first | refine SW.seq ?_ | refine SW.block ?_ | refine SW.rowC ?_ | refine SW.skip ?_ | refine SW.exit ?_ | intro _ | refine And.intro (by omega) ?_) | simp (config := { maxSteps := 1000000 }) (disch := (first | omega | (simp only [go_sem]; try omega))) only [go_sem, Nat.reduceAdd, Nat.reduceEqDiff, Nat.reduceLeDiff, Nat.reduceMul, Nat.reduceLT, reduceIte, Int.reduceToNat, w64_id, cast_succ])
    refine SW.ret ?_; (try simp only [go_sem]); (first | refine FunPost.one ?_ | refine FunPost.two ?_ | refine FunPost.three ?_); (try simp (config := { maxSteps := 1000000 }) (disch := (first | omega | (simp only [go_sem]; try omega))) only [go_sem, Nat.reduceAdd, Nat.reduceEqDiff, Nat.reduceLeDiff, Nat.reduceMul, Nat.reduceLT, reduceIte, Int.reduceToNat, w64_id, cast_succ]); (first | (with_reducible refine GR.drop ?_ ?_; (simp only [go_sem, and_self, and_true, true_and, implies_true, List.take_succ_cons, List.take_zero])) | refine GR.of ?_); refine ⟨?_, rfl⟩; (try with_reducible rfl)
    rw [hF]
  have d2 : decide ((els.length : Int) = 0) = false := decide_eq_false (by omega)
  by_cases c3 : els.length ≤ 720
  rotate_left
  · have hF : grpB n els = false := grpB_f.2 fun h => c3 h.2.1.2
    have d3 : decide ((720 : Int) < (els.length : Int)) = true := decide_eq_true (by omega)
    refine ACalls.introB s_spec_l05Ok (by simp) ?_; intro hB hA; unfold c_spec_l05Ok; simp (config := { maxSteps := 1000000 }) (disch := (first | omega | (simp only [go_sem]; try omega))) only [go_sem, Nat.reduceAdd, Nat.reduceEqDiff, Nat.reduceLeDiff, Nat.reduceMul, Nat.reduceLT, reduceIte, Int.reduceToNat, w64_id, cast_succ]
    repeat (first | (with_reducible first | refine SW.seq ?_ | refine SW.block ?_ | refine SW.rowC ?_ | refine SW.skip ?_ | refine SW.exit ?_ | refine PFn.use (hw) ?_ | refine PFn.useq (hw) ?_ | intro _ | refine And.intro (by omega) ?_) | simp (config := { maxSteps := 1000000 }) (disch := (first | omega | (simp only [go_sem]; try omega))) only [go_sem, Nat.reduceAdd, Nat.reduceEqDiff, Nat.reduceLeDiff, Nat.reduceMul, Nat.reduceLT, reduceIte, Int.reduceToNat, w64_id, cast_succ, hpa, hpl, d2, d3])
    refine SW.condT rfl ?_
    repeat (first | (with_reducible first | refine SW.seq ?_ | refine SW.block ?_ | refine SW.rowC ?_ | refine SW.skip ?_ | refine SW.exit ?_ | intro _ | refine And.intro (by omega) ?_) | simp (config := { maxSteps := 1000000 }) (disch := (first | omega | (simp only [go_sem]; try omega))) only [go_sem, Nat.reduceAdd, Nat.reduceEqDiff, Nat.reduceLeDiff, Nat.reduceMul, Nat.reduceLT, reduceIte, Int.reduceToNat, w64_id, cast_succ])
    refine SW.ret ?_; (try simp only [go_sem]); (first | refine FunPost.one ?_ | refine FunPost.two ?_ | refine FunPost.three ?_); (try simp (config := { maxSteps := 1000000 }) (disch := (first | omega | (simp only [go_sem]; try omega))) only [go_sem, Nat.reduceAdd, Nat.reduceEqDiff, Nat.reduceLeDiff, Nat.reduceMul, Nat.reduceLT, reduceIte, Int.reduceToNat, w64_id, cast_succ]); (first | (with_reducible refine GR.drop ?_ ?_; (simp only [go_sem, and_self, and_true, true_and, implies_true, List.take_succ_cons, List.take_zero])) | refine GR.of ?_); refine ⟨?_, rfl⟩; (try with_reducible rfl)
    rw [hF]
  have d3 : decide ((720 : Int) < (els.length : Int)) = false := decide_eq_false (by omega)
  refine ACalls.introB s_spec_l05Ok (by simp) ?_; intro hB hA; unfold c_spec_l05Ok; simp (config := { maxSteps := 1000000 }) (disch := (first | omega | (simp only [go_sem]; try omega))) only [go_sem, Nat.reduceAdd, Nat.reduceEqDiff, Nat.reduceLeDiff, Nat.reduceMul, Nat.reduceLT, reduceIte, Int.reduceToNat, w64_id, cast_succ]
  repeat (first | (with_reducible first | refine SW.seq ?_ | refine SW.block ?_ | refine SW.rowC ?_ | refine SW.skip ?_ | refine SW.exit ?_ | refine PFn.use (hw) ?_ | refine PFn.useq (hw) ?_ | intro _ | refine And.intro (by omega) ?_) | simp (config := { maxSteps := 1000000 }) (disch := (first | omega | (simp only [go_sem]; try omega))) only [go_sem, Nat.reduceAdd, Nat.reduceEqDiff, Nat.reduceLeDiff, Nat.reduceMul, Nat.reduceLT, reduceIte, Int.reduceToNat, w64_id, cast_succ, hpa, hpl, d2, d3])
  refine SW.condF rfl ?_
  repeat (first | (with_reducible first | refine SW.seq ?_ | refine SW.block ?_ | refine SW.rowC ?_ | refine SW.skip ?_ | refine SW.exit ?_ | intro _ | refine And.intro (by omega) ?_) | simp (config := { maxSteps := 1000000 }) (disch := (first | omega | (simp only [go_sem]; try omega))) only [go_sem, Nat.reduceAdd, Nat.reduceEqDiff, Nat.reduceLeDiff, Nat.reduceMul, Nat.reduceLT, reduceIte, Int.reduceToNat, w64_id, cast_succ])
  refine SW.loopE (fun E0 H0 q E' H' => ∃ (pre post : List (List Int)), els = pre ++ post ∧ q = post.length ∧ E' = aput E0 3 (I pre.length) ∧ H' = H0 ∧ Asc cmpL pre ∧ ∀ x ∈ pre, permOk n.toNat x) els.length ⟨[], els, rfl, rfl, rfl, rfl, .nil, by simp⟩ ?_
  rintro q E' H' ⟨pre, post, hpp, rfl, rfl, rfl, hasc, hok⟩
  simp (config := { maxSteps := 1000000 }) (disch := (first | omega | (simp only [go_sem]; try omega))) only [go_sem, Nat.reduceAdd, Nat.reduceEqDiff, Nat.reduceLeDiff, Nat.reduceMul, Nat.reduceLT, reduceIte, Int.reduceToNat, w64_id, cast_succ]
  repeat (first | (with_reducible first | refine SW.seq ?_ | refine SW.block ?_ | refine SW.rowC ?_ | refine SW.skip ?_ | refine SW.exit ?_ | intro _ | refine And.intro (by omega) ?_) | simp (config := { maxSteps := 1000000 }) (disch := (first | omega | (simp only [go_sem]; try omega))) only [go_sem, Nat.reduceAdd, Nat.reduceEqDiff, Nat.reduceLeDiff, Nat.reduceMul, Nat.reduceLT, reduceIte, Int.reduceToNat, w64_id, cast_succ, hpa, hpl])
  (first | refine SW.condD rfl (fun h2 => ?_) (fun h2 => ?_) | refine SW.condN rfl (fun h2 => ?_) (fun h2 => ?_) | refine SW.condNB rfl (fun h2 => ?_) (fun h2 => ?_) | refine SW.condB rfl (fun h2 => ?_) (fun h2 => ?_))
  · obtain ⟨x, post, rfl, hgx, -⟩ := consOf (d := []) hpp (by omega)
    have hxm : x ∈ els := by rw [hpp]; simp
    have hl4 := l04Ok_fn x
    by_cases cx : permB x = true
    rotate_left
    · rw [Bool.not_eq_true] at cx
      have hF : grpB n els = false := grpB_f.2 fun h => by
        have := (permOk_B c1.1 c1.2 (h.2.2.1 x hxm)).2
        rw [cx] at this; cases this
      rw [cx] at hl4
      repeat (first | (with_reducible first | refine SW.seq ?_ | refine SW.block ?_ | refine SW.rowC ?_ | refine SW.skip ?_ | refine SW.exit ?_ | refine PFn.use (hl4) ?_ | refine PFn.useq (hl4) ?_ | intro _ | refine And.intro (by omega) ?_) | simp (config := { maxSteps := 1000000 }) (disch := (first | omega | (simp only [go_sem]; try omega))) only [go_sem, Nat.reduceAdd, Nat.reduceEqDiff, Nat.reduceLeDiff, Nat.reduceMul, Nat.reduceLT, reduceIte, Int.reduceToNat, w64_id, cast_succ, hpa, hpl, hgx])
      refine SW.condT rfl ?_
      repeat (first | (with_reducible first | refine SW.seq ?_ | refine SW.block ?_ | refine SW.rowC ?_ | refine SW.skip ?_ | refine SW.exit ?_ | intro _ | refine And.intro (by omega) ?_) | simp (config := { maxSteps := 1000000 }) (disch := (first | omega | (simp only [go_sem]; try omega))) only [go_sem, Nat.reduceAdd, Nat.reduceEqDiff, Nat.reduceLeDiff, Nat.reduceMul, Nat.reduceLT, reduceIte, Int.reduceToNat, w64_id, cast_succ])
      refine SW.ret ?_; (try simp only [go_sem]); (first | refine FunPost.one ?_ | refine FunPost.two ?_ | refine FunPost.three ?_); (try simp (config := { maxSteps := 1000000 }) (disch := (first | omega | (simp only [go_sem]; try omega))) only [go_sem, Nat.reduceAdd, Nat.reduceEqDiff, Nat.reduceLeDiff, Nat.reduceMul, Nat.reduceLT, reduceIte, Int.reduceToNat, w64_id, cast_succ]); (first | (with_reducible refine GR.drop ?_ ?_; (simp only [go_sem, and_self, and_true, true_and, implies_true, List.take_succ_cons, List.take_zero])) | refine GR.of ?_); refine ⟨?_, rfl⟩; (try with_reducible rfl)
      rw [hF]
    rw [cx] at hl4
    by_cases cl : (x.length : Int) = n
    rotate_left
    · have hF : grpB n els = false := grpB_f.2 fun h => cl (permOk_B c1.1 c1.2 (h.2.2.1 x hxm)).1
      have dl := decide_eq_false cl
      repeat (first | (with_reducible first | refine SW.seq ?_ | refine SW.block ?_ | refine SW.rowC ?_ | refine SW.skip ?_ | refine SW.exit ?_ | refine PFn.use (hl4) ?_ | refine PFn.useq (hl4) ?_ | intro _ | refine And.intro (by omega) ?_) | simp (config := { maxSteps := 1000000 }) (disch := (first | omega | (simp only [go_sem]; try omega))) only [go_sem, Nat.reduceAdd, Nat.reduceEqDiff, Nat.reduceLeDiff, Nat.reduceMul, Nat.reduceLT, reduceIte, Int.reduceToNat, w64_id, cast_succ, hpa, hpl, hgx, dl])
      refine SW.condT rfl ?_
      repeat (first | (with_reducible first | refine SW.seq ?_ | refine SW.block ?_ | refine SW.rowC ?_ | refine SW.skip ?_ | refine SW.exit ?_ | intro _ | refine And.intro (by omega) ?_) | simp (config := { maxSteps := 1000000 }) (disch := (first | omega | (simp only [go_sem]; try omega))) only [go_sem, Nat.reduceAdd, Nat.reduceEqDiff, Nat.reduceLeDiff, Nat.reduceMul, Nat.reduceLT, reduceIte, Int.reduceToNat, w64_id, cast_succ])
      refine SW.ret ?_; (try simp only [go_sem]); (first | refine FunPost.one ?_ | refine FunPost.two ?_ | refine FunPost.three ?_); (try simp (config := { maxSteps := 1000000 }) (disch := (first | omega | (simp only [go_sem]; try omega))) only [go_sem, Nat.reduceAdd, Nat.reduceEqDiff, Nat.reduceLeDiff, Nat.reduceMul, Nat.reduceLT, reduceIte, Int.reduceToNat, w64_id, cast_succ]); (first | (with_reducible refine GR.drop ?_ ?_; (simp only [go_sem, and_self, and_true, true_and, implies_true, List.take_succ_cons, List.take_zero])) | refine GR.of ?_); refine ⟨?_, rfl⟩; (try with_reducible rfl)
      rw [hF]
    have dl := decide_eq_true cl
    have hxo := permB_ok c1.1 ⟨cl, cx⟩
    have hfin : Asc cmpL (pre ++ [x]) → ∀ y ∈ pre ++ [x], permOk n.toNat y := fun _ y hy => by
      rcases List.mem_append.1 hy with h | h
      · exact hok y h
      · rw [List.mem_singleton.1 h]; exact hxo
    by_cases c0 : pre.length = 0
    · have d0 : decide ((0 : Int) < (pre.length : Int)) = false := decide_eq_false (by omega)
      have hpn : pre = [] := List.eq_nil_of_length_eq_zero c0
      have hasc2 : Asc cmpL (pre ++ [x]) := by rw [hpn]; simp [Asc]
      repeat (first | (with_reducible first | refine SW.seq ?_ | refine SW.block ?_ | refine SW.rowC ?_ | refine SW.skip ?_ | refine SW.exit ?_ | refine PFn.use (hl4) ?_ | refine PFn.useq (hl4) ?_ | intro _ | refine And.intro (by omega) ?_) | simp (config := { maxSteps := 1000000 }) (disch := (first | omega | (simp only [go_sem]; try omega))) only [go_sem, Nat.reduceAdd, Nat.reduceEqDiff, Nat.reduceLeDiff, Nat.reduceMul, Nat.reduceLT, reduceIte, Int.reduceToNat, w64_id, cast_succ, hpa, hpl, hgx, dl, d0])
      refine SW.condF rfl ?_
      repeat (first | (with_reducible first | refine SW.seq ?_ | refine SW.block ?_ | refine SW.rowC ?_ | refine SW.skip ?_ | refine SW.exit ?_ | intro _ | refine And.intro (by omega) ?_) | simp (config := { maxSteps := 1000000 }) (disch := (first | omega | (simp only [go_sem]; try omega))) only [go_sem, Nat.reduceAdd, Nat.reduceEqDiff, Nat.reduceLeDiff, Nat.reduceMul, Nat.reduceLT, reduceIte, Int.reduceToNat, w64_id, cast_succ])
      refine SLoop.next post.length (by simp) ⟨pre ++ [x], post, by simp [hpp], rfl, by simp [go_sem], rfl, hasc2, hfin hasc2⟩
    · have d0 : decide ((0 : Int) < (pre.length : Int)) = true := decide_eq_true (by omega)
      have e1 : (pre.length : Int) - 1 = ((pre.length - 1 : Nat) : Int) := by omega
      have hlast : pre.getLast? = some (els.getD (pre.length - 1) []) := by
        rw [List.getLast?_eq_getElem?, List.getD_eq_getElem?_getD, hpp, List.getElem?_append_left (by omega), List.getElem?_eq_getElem (by omega)]; rfl
      have hcf := CompareLists_fn (els.getD (pre.length - 1) []) x
      have hpl1 : pre.length - 1 < els.length := by omega
      by_cases hc : cmpL (els.getD (pre.length - 1) []) x < 0
      · have dd : decide (0 ≤ cmpL (els.getD (pre.length - 1) []) x) = false := decide_eq_false (by omega)
        have hasc2 : Asc cmpL (pre ++ [x]) := (ascL_snoc cmpL_tot hasc).2 fun y hy => by rw [hlast] at hy; cases hy; exact hc
        repeat (first | (with_reducible first | refine SW.seq ?_ | refine SW.block ?_ | refine SW.rowC ?_ | refine SW.skip ?_ | refine SW.exit ?_ | refine PFn.use (hl4) ?_ | refine PFn.useq (hl4) ?_ | refine PFn.use (hcf) ?_ | refine PFn.useq (hcf) ?_ | intro _ | refine And.intro (by omega) ?_) | simp (config := { maxSteps := 1000000 }) (disch := (first | omega | (simp only [go_sem]; try omega))) only [go_sem, Nat.reduceAdd, Nat.reduceEqDiff, Nat.reduceLeDiff, Nat.reduceMul, Nat.reduceLT, reduceIte, Int.reduceToNat, w64_id, cast_succ, hpa, hpl, hgx, dl, d0, e1, dd])
        refine SW.condF rfl ?_
        repeat (first | (with_reducible first | refine SW.seq ?_ | refine SW.block ?_ | refine SW.rowC ?_ | refine SW.skip ?_ | refine SW.exit ?_ | intro _ | refine And.intro (by omega) ?_) | simp (config := { maxSteps := 1000000 }) (disch := (first | omega | (simp only [go_sem]; try omega))) only [go_sem, Nat.reduceAdd, Nat.reduceEqDiff, Nat.reduceLeDiff, Nat.reduceMul, Nat.reduceLT, reduceIte, Int.reduceToNat, w64_id, cast_succ])
        refine SLoop.next post.length (by simp) ⟨pre ++ [x], post, by simp [hpp], rfl, by simp [go_sem], rfl, hasc2, hfin hasc2⟩
      · have dd : decide (0 ≤ cmpL (els.getD (pre.length - 1) []) x) = true := decide_eq_true (by omega)
        have hF : grpB n els = false := grpB_f.2 fun h => by
          have h4 := h.2.2.2.1
          rw [hpp] at h4
          have e5 : pre ++ x :: post = (pre ++ [x]) ++ post := by simp
          rw [e5] at h4
          exact hc ((ascL_snoc cmpL_tot hasc).1 (List.pairwise_append.1 h4).1 _ hlast)
        repeat (first | (with_reducible first | refine SW.seq ?_ | refine SW.block ?_ | refine SW.rowC ?_ | refine SW.skip ?_ | refine SW.exit ?_ | refine PFn.use (hl4) ?_ | refine PFn.useq (hl4) ?_ | refine PFn.use (hcf) ?_ | refine PFn.useq (hcf) ?_ | intro _ | refine And.intro (by omega) ?_) | simp (config := { maxSteps := 1000000 }) (disch := (first | omega | (simp only [go_sem]; try omega))) only [go_sem, Nat.reduceAdd, Nat.reduceEqDiff, Nat.reduceLeDiff, Nat.reduceMul, Nat.reduceLT, reduceIte, Int.reduceToNat, w64_id, cast_succ, hpa, hpl, hgx, dl, d0, e1, dd])
        refine SW.condT rfl ?_
        repeat (first | (with_reducible first | refine SW.seq ?_ | refine SW.block ?_ | refine SW.rowC ?_ | refine SW.skip ?_ | refine SW.exit ?_ | intro _ | refine And.intro (by omega) ?_) | simp (config := { maxSteps := 1000000 }) (disch := (first | omega | (simp only [go_sem]; try omega))) only [go_sem, Nat.reduceAdd, Nat.reduceEqDiff, Nat.reduceLeDiff, Nat.reduceMul, Nat.reduceLT, reduceIte, Int.reduceToNat, w64_id, cast_succ])
        refine SW.ret ?_; (try simp only [go_sem]); (first | refine FunPost.one ?_ | refine FunPost.two ?_ | refine FunPost.three ?_); (try simp (config := { maxSteps := 1000000 }) (disch := (first | omega | (simp only [go_sem]; try omega))) only [go_sem, Nat.reduceAdd, Nat.reduceEqDiff, Nat.reduceLeDiff, Nat.reduceMul, Nat.reduceLT, reduceIte, Int.reduceToNat, w64_id, cast_succ]); (first | (with_reducible refine GR.drop ?_ ?_; (simp only [go_sem, and_self, and_true, true_and, implies_true, List.take_succ_cons, List.take_zero])) | refine GR.of ?_); refine ⟨?_, rfl⟩; (try with_reducible rfl)
        rw [hF]
  · obtain ⟨rfl, rfl⟩ := nilOf hpp (by omega)
    have en : n = ((n.toNat : Nat) : Int) := by omega
    have hgn := l05Generators_fn n.toNat pre (by omega) (by omega) hok c2 c3 hasc
    rw [← en] at hgn
    rw [grpB_clos c1 ⟨c2, c3⟩ hok hasc]
    repeat (first | (with_reducible first | refine SW.seq ?_ | refine SW.block ?_ | refine SW.rowC ?_ | refine SW.skip ?_ | refine SW.exit ?_ | refine PFn.use (hgn) ?_ | refine PFn.useq (hgn) ?_ | intro _ | refine And.intro (by omega) ?_) | simp (config := { maxSteps := 1000000 }) (disch := (first | omega | (simp only [go_sem]; try omega))) only [go_sem, Nat.reduceAdd, Nat.reduceEqDiff, Nat.reduceLeDiff, Nat.reduceMul, Nat.reduceLT, reduceIte, Int.reduceToNat, w64_id, cast_succ, hpa, hpl])
    refine SW.ret ?_; (try simp only [go_sem]); (first | refine FunPost.one ?_ | refine FunPost.two ?_ | refine FunPost.three ?_); (try simp (config := { maxSteps := 1000000 }) (disch := (first | omega | (simp only [go_sem]; try omega))) only [go_sem, Nat.reduceAdd, Nat.reduceEqDiff, Nat.reduceLeDiff, Nat.reduceMul, Nat.reduceLT, reduceIte, Int.reduceToNat, w64_id, cast_succ]); (first | (with_reducible refine GR.drop ?_ ?_; (simp only [go_sem, and_self, and_true, true_and, implies_true, List.take_succ_cons, List.take_zero])) | refine GR.of ?_); refine ⟨?_, rfl⟩; (try with_reducible rfl)
end Go.Proofs.YtkifdjjnbplghaaGreat
