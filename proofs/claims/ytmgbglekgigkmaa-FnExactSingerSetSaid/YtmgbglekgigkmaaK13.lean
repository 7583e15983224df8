/- The first difference set: the reference. -/
import Derived.Test.YtmgbglekgigkmaaProg
import Derived.KernelRfl
import Derived.Test.YtmgbglekgigkmaaK12
set_option linter.unusedSimpArgs false
set_option linter.unusedVariables false
set_option maxHeartbeats 4000000
namespace Go.Proofs.Ytmgbglekgigkmaa
open Go.Av

/-! The abstract code of functions, printed by program and tied to the program by the kernel. -/
/-- loop.example/g00920/spec.FirstDifferenceSet -/
abbrev f_spec_FirstDifferenceSet : Nat := 43
def c_spec_FirstDifferenceSet : SC :=
 .seq (.reg [
     ⟨(some 8), .mv (.const (.slice none 0 0)), none⟩,
     ⟨(some 9), .mv (.const (.int .i64 0)), none⟩] [0, 1, 2, 3])
 (.seq (.seq (.reg [
     ⟨(some 10), .mv (.tmp 0), none⟩,
     ⟨(some 11), .call 57 [(.tmp 10), (.const (.int .i64 2)), (.const (.int .i64 32))], none⟩,
     ⟨(some 12), .un .not (.tmp 11), none⟩,
     ⟨(some 13), .mv (.tmp 12), none⟩,
     ⟨(some 14), .mv (.tmp 1), (some (13, false))⟩,
     ⟨(some 15), .mv (.tmp 0), (some (13, false))⟩,
     ⟨(some 16), .call 57 [(.tmp 14), (.const (.int .i64 2)), (.tmp 15)], (some (13, false))⟩,
     ⟨(some 17), .un .not (.tmp 16), (some (13, false))⟩,
     ⟨(some 18), .pick (.tmp 13) (.const (.bool true)) (.tmp 17), none⟩,
     ⟨(some 19), .mv (.tmp 18), none⟩,
     ⟨(some 20), .mv (.tmp 3), (some (19, false))⟩,
     ⟨(some 21), .call 57 [(.tmp 20), (.const (.int .i64 1)), (.const (.int .i64 20000))], (some (19, false))⟩,
     ⟨(some 22), .un .not (.tmp 21), (some (19, false))⟩,
     ⟨(some 23), .pick (.tmp 19) (.const (.bool true)) (.tmp 22), none⟩] [0, 1, 2, 3, 23])
 (.cond (.tmp 23)
  (.seq (.reg [
      ⟨(some 8), .mv (.const (.slice none 0 0)), none⟩,
      ⟨(some 9), .mv (.const (.int .i64 2)), none⟩] [8, 9])
  (.ret))
  (.skip)))
 (.seq (.seq (.reg [
     ⟨(some 24), .mv (.tmp 2), none⟩,
     ⟨(some 25), .bin .lss (.tmp 24) (.const (.int .i64 1)), none⟩,
     ⟨(some 26), .mv (.tmp 25), none⟩,
     ⟨(some 27), .mv (.tmp 2), (some (26, false))⟩,
     ⟨(some 28), .mv (.tmp 1), (some (26, false))⟩,
     ⟨(some 29), .mv (.tmp 1), (some (26, false))⟩,
     ⟨(some 30), .bin .sub (.tmp 29) (.const (.int .i64 1)), (some (26, false))⟩,
     ⟨(some 31), .bin .mul (.tmp 28) (.tmp 30), (some (26, false))⟩,
     ⟨(some 32), .bin .gtr (.tmp 27) (.tmp 31), (some (26, false))⟩,
     ⟨(some 33), .pick (.tmp 26) (.const (.bool true)) (.tmp 32), none⟩,
     ⟨(some 34), .mv (.tmp 33), none⟩,
     ⟨(some 35), .mv (.tmp 1), (some (34, false))⟩,
     ⟨(some 36), .mv (.tmp 1), (some (34, false))⟩,
     ⟨(some 37), .bin .sub (.tmp 36) (.const (.int .i64 1)), (some (34, false))⟩,
     ⟨(some 38), .bin .mul (.tmp 35) (.tmp 37), (some (34, false))⟩,
     ⟨(some 39), .mv (.tmp 2), (some (34, false))⟩,
     ⟨(some 40), .mv (.tmp 0), (some (34, false))⟩,
     ⟨(some 41), .bin .sub (.tmp 40) (.const (.int .i64 1)), (some (34, false))⟩,
     ⟨(some 42), .bin .mul (.tmp 39) (.tmp 41), (some (34, false))⟩,
     ⟨(some 43), .bin .neq (.tmp 38) (.tmp 42), (some (34, false))⟩,
     ⟨(some 44), .pick (.tmp 34) (.const (.bool true)) (.tmp 43), none⟩] [0, 1, 2, 3, 44])
 (.cond (.tmp 44)
  (.seq (.reg [
      ⟨(some 8), .mv (.const (.slice none 0 0)), none⟩,
      ⟨(some 9), .mv (.const (.int .i64 6)), none⟩] [8, 9])
  (.ret))
  (.skip)))
 (.seq (.reg [
     ⟨(some 45), .mv (.tmp 0), none⟩,
     ⟨(some 46), .mv (.tmp 1), none⟩,
     ⟨(some 47), .mv (.tmp 2), none⟩,
     ⟨(some 48), .mv (.tmp 3), none⟩,
     ⟨(some 49), .call 97 [(.tmp 45), (.tmp 46), (.tmp 47), (.tmp 48)], none⟩,
     ⟨(some 50), .ext (.tmp 49) 0, none⟩,
     ⟨(some 51), .ext (.tmp 49) 1, none⟩,
     ⟨(some 8), .mv (.tmp 50), none⟩,
     ⟨(some 9), .mv (.tmp 51), none⟩] [8, 9])
 (.ret))))
theorem s_spec_FirstDifferenceSet : stripF Try.prog 43 [[0, 1, 2, 3], [0, 1, 2, 3, 23], [8, 9], [0, 1, 2, 3, 44], [8, 9], [8, 9]] = some (c_spec_FirstDifferenceSet, [.tmp 8, .tmp 9], 52) := by kernel_rfl

/-- loop.example/g00920/spec.SingerSet -/
abbrev f_spec_SingerSet : Nat := 47
def c_spec_SingerSet : SC :=
 .seq (.reg [
     ⟨(some 2), .mv (.const (.slice none 0 0)), none⟩,
     ⟨(some 3), .mv (.const (.int .i64 0)), none⟩] [0])
 (.seq (.seq (.reg [
     ⟨(some 4), .mv (.tmp 0), none⟩,
     ⟨(some 5), .call 57 [(.tmp 4), (.const (.int .i64 2)), (.const (.int .i64 5))], none⟩,
     ⟨(some 6), .un .not (.tmp 5), none⟩] [0, 6])
 (.cond (.tmp 6)
  (.seq (.reg [
      ⟨(some 2), .mv (.const (.slice none 0 0)), none⟩,
      ⟨(some 3), .mv (.const (.int .i64 2)), none⟩] [2, 3])
  (.ret))
  (.skip)))
 (.seq (.reg [
     ⟨(some 7), .mv (.tmp 0), none⟩,
     ⟨(some 8), .mv (.tmp 0), none⟩,
     ⟨(some 9), .bin .mul (.tmp 7) (.tmp 8), none⟩,
     ⟨(some 10), .mv (.tmp 0), none⟩,
     ⟨(some 11), .bin .add (.tmp 9) (.tmp 10), none⟩,
     ⟨(some 12), .bin .add (.tmp 11) (.const (.int .i64 1)), none⟩,
     ⟨(some 13), .mv (.tmp 0), none⟩,
     ⟨(some 14), .bin .add (.tmp 13) (.const (.int .i64 1)), none⟩,
     ⟨(some 15), .call 97 [(.tmp 12), (.tmp 14), (.const (.int .i64 1)), (.const (.int .i64 20000))], none⟩,
     ⟨(some 16), .ext (.tmp 15) 0, none⟩,
     ⟨(some 17), .ext (.tmp 15) 1, none⟩,
     ⟨(some 2), .mv (.tmp 16), none⟩,
     ⟨(some 3), .mv (.tmp 17), none⟩] [2, 3])
 (.ret)))
theorem s_spec_SingerSet : stripF Try.prog 47 [[0], [0, 6], [2, 3], [2, 3]] = some (c_spec_SingerSet, [.tmp 2, .tmp 3], 18) := by kernel_rfl

/-- loop.example/g00920/spec.l13First -/
abbrev f_spec_l13First : Nat := 97
def c_spec_l13First : SC :=
 .seq (.reg [
     ⟨(some 8), .mv (.const (.slice none 0 0)), none⟩,
     ⟨(some 9), .mv (.const (.int .i64 0)), none⟩] [0, 1, 2, 3])
 (.seq (.reg [
     ⟨(some 12), .mv (.tmp 0), none⟩,
     ⟨(some 13), .mv (.tmp 1), none⟩,
     ⟨(some 14), .mv (.tmp 2), none⟩,
     ⟨(some 15), .mv (.tmp 3), none⟩,
     ⟨(some 16), .bslice 2 1 1 [(.int .i64 0)] [(0, (.const (.int .i64 0)))], none⟩,
     ⟨(some 17), .build [(.int .i64 0), (.int .i64 0), (.int .i64 0), (.int .i64 0), (.int .i64 0), (.slice none 0 0)] [(0, 1, (.tmp 12)), (1, 1, (.tmp 13)), (2, 1, (.tmp 14)), (4, 1, (.tmp 15)), (5, 1, (.tmp 16))], none⟩,
     ⟨(some 18), .box 135 (.tmp 17), none⟩,
     ⟨(some 10), .mv (.tmp 18), none⟩] [3, 10])
 (.seq (.reg [
     ⟨(some 19), .mv (.tmp 10), none⟩,
     ⟨(some 20), .call 129 [(.tmp 19)], none⟩,
     ⟨(some 11), .mv (.tmp 20), none⟩] [3, 10, 11])
 (.seq (.seq (.reg [
     ⟨(some 21), .mv (.tmp 10), none⟩,
     ⟨(some 22), .nilc (.tmp 21), none⟩,
     ⟨(some 23), .faddr 3 (.tmp 22), none⟩,
     ⟨(some 24), .load 1 false (.tmp 23), none⟩,
     ⟨(some 25), .mv (.tmp 3), none⟩,
     ⟨(some 26), .bin .gtr (.tmp 24) (.tmp 25), none⟩] [10, 11, 26])
 (.cond (.tmp 26)
  (.seq (.reg [
      ⟨(some 8), .mv (.const (.slice none 0 0)), none⟩,
      ⟨(some 9), .mv (.const (.int .i64 5)), none⟩] [8, 9])
  (.ret))
  (.skip)))
 (.seq (.seq (.reg [
     ⟨(some 27), .mv (.tmp 11), none⟩,
     ⟨(some 28), .un .not (.tmp 27), none⟩] [10, 28])
 (.cond (.tmp 28)
  (.seq (.reg [
      ⟨(some 8), .mv (.const (.slice none 0 0)), none⟩,
      ⟨(some 9), .mv (.const (.int .i64 3)), none⟩] [8, 9])
  (.ret))
  (.skip)))
 (.seq (.reg [
     ⟨(some 29), .mv (.tmp 10), none⟩,
     ⟨(some 30), .nilc (.tmp 29), none⟩,
     ⟨(some 31), .faddr 5 (.tmp 30), none⟩,
     ⟨(some 32), .load 1 false (.tmp 31), none⟩,
     ⟨(some 33), .call 118 [(.tmp 32)], none⟩,
     ⟨(some 8), .mv (.tmp 33), none⟩,
     ⟨(some 9), .mv (.const (.int .i64 0)), none⟩] [8, 9])
 (.ret))))))
theorem s_spec_l13First : stripF Try.prog 97 [[0, 1, 2, 3], [3, 10], [3, 10, 11], [10, 11, 26], [8, 9], [10, 28], [8, 9], [8, 9]] = some (c_spec_l13First, [.tmp 8, .tmp 9], 34) := by kernel_rfl

/-- loop.example/g00920/spec.l00Own -/
abbrev f_spec_l00Own : Nat := 118
def c_spec_l00Own : SC :=
 .seq (.reg [
     ⟨(some 2), .mv (.const (.slice none 0 0)), none⟩] [0])
 (.seq (.reg [
     ⟨(some 3), .bslice 2 1 0 [] [], none⟩,
     ⟨(some 4), .mv (.tmp 0), none⟩,
     ⟨(some 5), .app 2 1 8 (.tmp 3) (.tmp 4), none⟩,
     ⟨(some 2), .mv (.tmp 5), none⟩] [2])
 (.ret))
theorem s_spec_l00Own : stripF Try.prog 118 [[0], [2]] = some (c_spec_l00Own, [.tmp 2], 6) := by kernel_rfl

/-- (*loop.example/g00920/spec.l13Search).visit -/
abbrev f_spec_l13Search_visit : Nat := 129
def c_spec_l13Search_visit : SC :=
 .seq (.reg [
     ⟨(some 2), .mv (.const (.bool false)), none⟩] [0])
 (.seq (.reg [
     ⟨(some 6), .mv (.tmp 0), none⟩,
     ⟨(some 7), .nilc (.tmp 6), none⟩,
     ⟨(some 8), .faddr 3 (.tmp 7), none⟩,
     ⟨(some 9), .load 1 false (.tmp 8), none⟩,
     ⟨(some 10), .bin .add (.tmp 9) (.const (.int .i64 1)), none⟩,
     ⟨(some 11), .nilc (.tmp 6), none⟩,
     ⟨(some 12), .faddr 3 (.tmp 11), none⟩,
     ⟨none, .store 1 (.tmp 12) (.tmp 10), none⟩] [0])
 (.seq (.seq (.reg [
     ⟨(some 13), .mv (.tmp 0), none⟩,
     ⟨(some 14), .nilc (.tmp 13), none⟩,
     ⟨(some 15), .faddr 3 (.tmp 14), none⟩,
     ⟨(some 16), .load 1 false (.tmp 15), none⟩,
     ⟨(some 17), .mv (.tmp 0), none⟩,
     ⟨(some 18), .nilc (.tmp 17), none⟩,
     ⟨(some 19), .faddr 4 (.tmp 18), none⟩,
     ⟨(some 20), .load 1 false (.tmp 19), none⟩,
     ⟨(some 21), .bin .gtr (.tmp 16) (.tmp 20), none⟩] [0, 21])
 (.cond (.tmp 21)
  (.seq (.reg [
      ⟨(some 2), .mv (.const (.bool true)), none⟩] [2])
  (.ret))
  (.skip)))
 (.seq (.reg [
     ⟨(some 22), .mv (.tmp 0), none⟩,
     ⟨(some 23), .nilc (.tmp 22), none⟩,
     ⟨(some 24), .faddr 0 (.tmp 23), none⟩,
     ⟨(some 25), .load 1 false (.tmp 24), none⟩,
     ⟨(some 26), .mv (.tmp 0), none⟩,
     ⟨(some 27), .nilc (.tmp 26), none⟩,
     ⟨(some 28), .faddr 5 (.tmp 27), none⟩,
     ⟨(some 29), .load 1 false (.tmp 28), none⟩,
     ⟨(some 30), .bslice 42 1 1 [(.slice none 0 0)] [(0, (.tmp 29))], none⟩,
     ⟨(some 31), .qcall 142 [(.tmp 25), (.tmp 30)], none⟩,
     ⟨(some 3), .mv (.tmp 31), none⟩] [0, 3])
 (.seq (.seq (.reg [
     ⟨(some 4), .mv (.const (.int .i64 1)), none⟩] [0, 3, 4])
 (.block 0 (.loop [0, 3, 4]
   (.seq (.seq (.reg [
       ⟨(some 32), .mv (.tmp 4), none⟩,
       ⟨(some 33), .mv (.tmp 0), none⟩,
       ⟨(some 34), .nilc (.tmp 33), none⟩,
       ⟨(some 35), .faddr 0 (.tmp 34), none⟩,
       ⟨(some 36), .load 1 false (.tmp 35), none⟩,
       ⟨(some 37), .bin .lss (.tmp 32) (.tmp 36), none⟩] [0, 3, 4, 37])
   (.cond (.tmp 37)
    (.skip)
    (.exit 0)))
   (.seq (.block 1 (.seq (.reg [
        ⟨(some 40), .mv (.tmp 3), none⟩,
        ⟨(some 41), .mv (.tmp 4), none⟩,
        ⟨(some 42), .iaddr 1 (.tmp 40) (.tmp 41), none⟩,
        ⟨(some 43), .load 1 false (.tmp 42), none⟩,
        ⟨(some 44), .mv (.tmp 0), none⟩,
        ⟨(some 45), .nilc (.tmp 44), none⟩,
        ⟨(some 46), .faddr 2 (.tmp 45), none⟩,
        ⟨(some 47), .load 1 false (.tmp 46), none⟩,
        ⟨(some 48), .bin .gtr (.tmp 43) (.tmp 47), none⟩] [0, 3, 4, 48])
    (.cond (.tmp 48)
     (.seq (.reg [
         ⟨(some 2), .mv (.const (.bool false)), none⟩] [2])
     (.ret))
     (.skip))))
   (.reg [
       ⟨(some 38), .mv (.tmp 4), none⟩,
       ⟨(some 39), .bin .add (.tmp 38) (.const (.int .i64 1)), none⟩,
       ⟨(some 4), .mv (.tmp 39), none⟩] [0, 3, 4]))))))
 (.seq (.seq (.reg [
     ⟨(some 49), .mv (.tmp 0), none⟩,
     ⟨(some 50), .nilc (.tmp 49), none⟩,
     ⟨(some 51), .faddr 5 (.tmp 50), none⟩,
     ⟨(some 52), .load 1 false (.tmp 51), none⟩,
     ⟨(some 53), .qlen (.tmp 52), none⟩,
     ⟨(some 54), .mv (.tmp 0), none⟩,
     ⟨(some 55), .nilc (.tmp 54), none⟩,
     ⟨(some 56), .faddr 1 (.tmp 55), none⟩,
     ⟨(some 57), .load 1 false (.tmp 56), none⟩,
     ⟨(some 58), .bin .eql (.tmp 53) (.tmp 57), none⟩] [0, 58])
 (.cond (.tmp 58)
  (.seq (.reg [
      ⟨(some 2), .mv (.const (.bool true)), none⟩] [2])
  (.ret))
  (.skip)))
 (.seq (.seq (.reg [
     ⟨(some 59), .mv (.tmp 0), none⟩,
     ⟨(some 60), .nilc (.tmp 59), none⟩,
     ⟨(some 61), .faddr 5 (.tmp 60), none⟩,
     ⟨(some 62), .load 1 false (.tmp 61), none⟩,
     ⟨(some 63), .mv (.tmp 0), none⟩,
     ⟨(some 64), .nilc (.tmp 63), none⟩,
     ⟨(some 65), .faddr 5 (.tmp 64), none⟩,
     ⟨(some 66), .load 1 false (.tmp 65), none⟩,
     ⟨(some 67), .qlen (.tmp 66), none⟩,
     ⟨(some 68), .bin .sub (.tmp 67) (.const (.int .i64 1)), none⟩,
     ⟨(some 69), .iaddr 1 (.tmp 62) (.tmp 68), none⟩,
     ⟨(some 70), .load 1 false (.tmp 69), none⟩,
     ⟨(some 71), .bin .add (.tmp 70) (.const (.int .i64 1)), none⟩,
     ⟨(some 5), .mv (.tmp 71), none⟩] [0, 5])
 (.block 2 (.loop [0, 5]
   (.seq (.seq (.reg [
       ⟨(some 72), .mv (.tmp 5), none⟩,
       ⟨(some 73), .mv (.tmp 0), none⟩,
       ⟨(some 74), .nilc (.tmp 73), none⟩,
       ⟨(some 75), .faddr 0 (.tmp 74), none⟩,
       ⟨(some 76), .load 1 false (.tmp 75), none⟩,
       ⟨(some 77), .bin .lss (.tmp 72) (.tmp 76), none⟩] [0, 5, 77])
   (.cond (.tmp 77)
    (.skip)
    (.exit 2)))
   (.seq (.block 3 (.seq (.reg [
        ⟨(some 80), .mv (.tmp 0), none⟩,
        ⟨(some 81), .mv (.tmp 0), none⟩,
        ⟨(some 82), .nilc (.tmp 81), none⟩,
        ⟨(some 83), .faddr 5 (.tmp 82), none⟩,
        ⟨(some 84), .load 1 false (.tmp 83), none⟩,
        ⟨(some 85), .mv (.tmp 5), none⟩,
        ⟨(some 86), .bslice 2 1 1 [(.int .i64 0)] [(0, (.tmp 85))], none⟩,
        ⟨(some 87), .app 2 1 8 (.tmp 84) (.tmp 86), none⟩,
        ⟨(some 88), .nilc (.tmp 80), none⟩,
        ⟨(some 89), .faddr 5 (.tmp 88), none⟩,
        ⟨none, .store 1 (.tmp 89) (.tmp 87), none⟩] [0, 5])
    (.seq (.seq (.reg [
        ⟨(some 90), .mv (.tmp 0), none⟩,
        ⟨(some 91), .call 129 [(.tmp 90)], none⟩] [0, 5, 91])
    (.cond (.tmp 91)
     (.seq (.reg [
         ⟨(some 2), .mv (.const (.bool true)), none⟩] [2])
     (.ret))
     (.skip)))
    (.reg [
        ⟨(some 92), .mv (.tmp 0), none⟩,
        ⟨(some 93), .mv (.tmp 0), none⟩,
        ⟨(some 94), .nilc (.tmp 93), none⟩,
        ⟨(some 95), .faddr 5 (.tmp 94), none⟩,
        ⟨(some 96), .load 1 false (.tmp 95), none⟩,
        ⟨(some 97), .mv (.tmp 0), none⟩,
        ⟨(some 98), .nilc (.tmp 97), none⟩,
        ⟨(some 99), .faddr 5 (.tmp 98), none⟩,
        ⟨(some 100), .load 1 false (.tmp 99), none⟩,
        ⟨(some 101), .qlen (.tmp 100), none⟩,
        ⟨(some 102), .bin .sub (.tmp 101) (.const (.int .i64 1)), none⟩,
        ⟨(some 103), .slc 1 (.tmp 96) none (some (.tmp 102)), none⟩,
        ⟨(some 104), .nilc (.tmp 92), none⟩,
        ⟨(some 105), .faddr 5 (.tmp 104), none⟩,
        ⟨none, .store 1 (.tmp 105) (.tmp 103), none⟩] [0, 5]))))
   (.reg [
       ⟨(some 78), .mv (.tmp 5), none⟩,
       ⟨(some 79), .bin .add (.tmp 78) (.const (.int .i64 1)), none⟩,
       ⟨(some 5), .mv (.tmp 79), none⟩] [0, 5]))))))
 (.seq (.reg [
     ⟨(some 2), .mv (.const (.bool false)), none⟩] [2])
 (.ret))))))))
theorem s_spec_l13Search_visit : stripF Try.prog 129 [[0], [0], [0, 21], [2], [0, 3], [0, 3, 4], [0, 3, 4], [0, 3, 4, 37], [0, 3, 4, 48], [2], [0, 3, 4], [0, 58], [2], [0, 5], [0, 5], [0, 5, 77], [0, 5], [0, 5, 91], [2], [0, 5], [0, 5], [2]] = some (c_spec_l13Search_visit, [.tmp 2], 106) := by kernel_rfl

/-- loop.example/g00920/spec.l13Table -/
abbrev f_spec_l13Table : Nat := 142
def c_spec_l13Table : SC :=
 .seq (.reg [
     ⟨(some 4), .mv (.const (.slice none 0 0)), none⟩] [0, 1])
 (.seq (.reg [
     ⟨(some 9), .mv (.tmp 0), none⟩,
     ⟨(some 10), .mslice 2 8 (.int .i64 0) (.tmp 9) (.tmp 9), none⟩,
     ⟨(some 5), .mv (.tmp 10), none⟩] [0, 1, 5])
 (.seq (.seq (.reg [
     ⟨(some 6), .mv (.const (.int .i64 0)), none⟩] [0, 1, 5, 6])
 (.block 0 (.loop [0, 1, 5, 6]
   (.seq (.seq (.reg [
       ⟨(some 11), .mv (.tmp 6), none⟩,
       ⟨(some 12), .mv (.tmp 1), none⟩,
       ⟨(some 13), .len (.tmp 12), none⟩,
       ⟨(some 14), .bin .lss (.tmp 11) (.tmp 13), none⟩] [0, 1, 5, 6, 14])
   (.cond (.tmp 14)
    (.skip)
    (.exit 0)))
   (.seq (.block 1 (.seq (.reg [
        ⟨(some 7), .mv (.const (.int .i64 0)), none⟩] [0, 1, 5, 6, 7])
    (.block 2 (.loop [0, 1, 5, 6, 7]
      (.seq (.seq (.reg [
          ⟨(some 17), .mv (.tmp 7), none⟩,
          ⟨(some 18), .mv (.tmp 1), none⟩,
          ⟨(some 19), .mv (.tmp 6), none⟩,
          ⟨(some 20), .iaddr 1 (.tmp 18) (.tmp 19), none⟩,
          ⟨(some 21), .load 1 false (.tmp 20), none⟩,
          ⟨(some 22), .len (.tmp 21), none⟩,
          ⟨(some 23), .bin .lss (.tmp 17) (.tmp 22), none⟩] [0, 1, 5, 6, 7, 23])
      (.cond (.tmp 23)
       (.skip)
       (.exit 2)))
      (.seq (.block 3 (.seq (.reg [
           ⟨(some 8), .mv (.const (.int .i64 0)), none⟩] [0, 1, 5, 6, 7, 8])
       (.block 4 (.loop [0, 1, 5, 6, 7, 8]
         (.seq (.seq (.reg [
             ⟨(some 26), .mv (.tmp 8), none⟩,
             ⟨(some 27), .mv (.tmp 1), none⟩,
             ⟨(some 28), .mv (.tmp 6), none⟩,
             ⟨(some 29), .iaddr 1 (.tmp 27) (.tmp 28), none⟩,
             ⟨(some 30), .load 1 false (.tmp 29), none⟩,
             ⟨(some 31), .len (.tmp 30), none⟩,
             ⟨(some 32), .bin .lss (.tmp 26) (.tmp 31), none⟩] [0, 1, 5, 6, 7, 8, 32])
         (.cond (.tmp 32)
          (.skip)
          (.exit 4)))
         (.seq (.block 5 (.seq (.reg [
              ⟨(some 35), .mv (.tmp 7), none⟩,
              ⟨(some 36), .mv (.tmp 8), none⟩,
              ⟨(some 37), .bin .neq (.tmp 35) (.tmp 36), none⟩] [0, 1, 5, 6, 7, 8, 37])
          (.cond (.tmp 37)
           (.reg [
               ⟨(some 38), .mv (.tmp 5), none⟩,
               ⟨(some 39), .mv (.tmp 1), none⟩,
               ⟨(some 40), .mv (.tmp 6), none⟩,
               ⟨(some 41), .iaddr 1 (.tmp 39) (.tmp 40), none⟩,
               ⟨(some 42), .load 1 false (.tmp 41), none⟩,
               ⟨(some 43), .mv (.tmp 7), none⟩,
               ⟨(some 44), .iaddr 1 (.tmp 42) (.tmp 43), none⟩,
               ⟨(some 45), .load 1 false (.tmp 44), none⟩,
               ⟨(some 46), .mv (.tmp 1), none⟩,
               ⟨(some 47), .mv (.tmp 6), none⟩,
               ⟨(some 48), .iaddr 1 (.tmp 46) (.tmp 47), none⟩,
               ⟨(some 49), .load 1 false (.tmp 48), none⟩,
               ⟨(some 50), .mv (.tmp 8), none⟩,
               ⟨(some 51), .iaddr 1 (.tmp 49) (.tmp 50), none⟩,
               ⟨(some 52), .load 1 false (.tmp 51), none⟩,
               ⟨(some 53), .bin .sub (.tmp 45) (.tmp 52), none⟩,
               ⟨(some 54), .mv (.tmp 0), none⟩,
               ⟨(some 55), .bin .add (.tmp 53) (.tmp 54), none⟩,
               ⟨(some 56), .mv (.tmp 0), none⟩,
               ⟨(some 57), .bin .rem (.tmp 55) (.tmp 56), none⟩,
               ⟨(some 58), .iaddr 1 (.tmp 38) (.tmp 57), none⟩,
               ⟨(some 59), .load 1 false (.tmp 58), none⟩,
               ⟨(some 60), .bin .add (.tmp 59) (.const (.int .i64 1)), none⟩,
               ⟨(some 61), .iaddr 1 (.tmp 38) (.tmp 57), none⟩,
               ⟨none, .store 1 (.tmp 61) (.tmp 60), none⟩] [0, 1, 5, 6, 7, 8])
           (.skip))))
         (.reg [
             ⟨(some 33), .mv (.tmp 8), none⟩,
             ⟨(some 34), .bin .add (.tmp 33) (.const (.int .i64 1)), none⟩,
             ⟨(some 8), .mv (.tmp 34), none⟩] [0, 1, 5, 6, 7, 8])))))))
      (.reg [
          ⟨(some 24), .mv (.tmp 7), none⟩,
          ⟨(some 25), .bin .add (.tmp 24) (.const (.int .i64 1)), none⟩,
          ⟨(some 7), .mv (.tmp 25), none⟩] [0, 1, 5, 6, 7])))))))
   (.reg [
       ⟨(some 15), .mv (.tmp 6), none⟩,
       ⟨(some 16), .bin .add (.tmp 15) (.const (.int .i64 1)), none⟩,
       ⟨(some 6), .mv (.tmp 16), none⟩] [0, 1, 5, 6]))))))
 (.seq (.reg [
     ⟨(some 62), .mv (.tmp 5), none⟩,
     ⟨(some 4), .mv (.tmp 62), none⟩] [4])
 (.ret))))
theorem s_spec_l13Table : stripF Try.prog 142 [[0, 1], [0, 1, 5], [0, 1, 5, 6], [0, 1, 5, 6], [0, 1, 5, 6, 14], [0, 1, 5, 6, 7], [0, 1, 5, 6, 7], [0, 1, 5, 6, 7, 23], [0, 1, 5, 6, 7, 8], [0, 1, 5, 6, 7, 8], [0, 1, 5, 6, 7, 8, 32], [0, 1, 5, 6, 7, 8, 37], [0, 1, 5, 6, 7, 8], [0, 1, 5, 6, 7, 8], [0, 1, 5, 6, 7], [0, 1, 5, 6], [4]] = some (c_spec_l13Table, [.tmp 4], 63) := by kernel_rfl


theorem asc_nodup : ∀ {l : List Int} {lo hi : Int}, asc lo hi l = true → l.Nodup
  | [], _, _, _ => List.nodup_nil
  | x :: l, lo, hi, h => by
    simp only [asc, Bool.and_eq_true, decide_eq_true_eq] at h
    refine List.nodup_cons.2 ⟨fun hx => ?_, asc_nodup h.2⟩
    have := asc_mem h.2 x hx; omega
theorem pos_iff {set pre post pr po : List Int} {a b : Int} (hnd : set.Nodup) (h1 : set = pre ++ a :: post) (h2 : set = pr ++ b :: po) : pre.length = pr.length ↔ b = a := by
  have e1 : set[pre.length]? = some a := by rw [h1]; simp
  have e2 : set[pr.length]? = some b := by rw [h2]; simp
  constructor
  · intro h; rw [h, e2] at e1; cases e1; rfl
  · rintro rfl
    have l1 := (List.getElem?_eq_some_iff.1 e1)
    have l2 := (List.getElem?_eq_some_iff.1 e2)
    obtain ⟨q1, q2⟩ := l1
    obtain ⟨q3, q4⟩ := l2
    have hpw := List.pairwise_iff_getElem.1 hnd
    rcases Nat.lt_trichotomy pre.length pr.length with h | h | h
    · exact absurd (q2.trans q4.symm) (hpw _ _ q1 q3 h)
    · exact h
    · exact absurd (q4.trans q2.symm) (hpw _ _ q3 q1 h)

theorem l13Table_new (n : Nat) (set : List Int) (hn : 1 ≤ n ∧ n ≤ 1000) (hs : ∀ x ∈ set, 0 ≤ x ∧ x < n) (hl : set.length ≤ 1000) (hnd : set.Nodup) : NewL Try.prog f_spec_l13Table [I n, ilSS [set]] (counts n (dl n set set)) := by
  intro H
  refine ACalls.introB s_spec_l13Table (by simp) ?_; intro hB hA; unfold c_spec_l13Table; simp (config := { maxSteps := 1000000 }) (disch := (first | omega | (simp only [go_sem]; try omega))) only [go_sem, ↓GSplit_t, ↓GSplit_f, ↓GSplit_tf, ↓GSplit_ft, Nat.reduceAdd, Nat.reduceEqDiff, Nat.reduceLeDiff, Nat.reduceMul, Nat.reduceLT, reduceIte, Int.reduceToNat, bne_self_eq_false, beq_self_eq_true, w64_id, cast_succ, Bool.false_eq_true, Bool.and_true, Bool.true_and, Bool.and_false, Bool.false_and, Bool.not_not]
  repeat (first | (with_reducible refine SW.seq ?_) | (with_reducible refine SW.block ?_) | (with_reducible refine SW.rowC ?_) | (with_reducible refine SW.skip ?_) | (with_reducible refine SW.exit ?_) | (with_reducible intro _) | (with_reducible refine And.intro (by omega) ?_) | (simp (config := { maxSteps := 1000000 }) (disch := (first | omega | (simp only [go_sem]; try omega))) only [go_sem, ↓GSplit_t, ↓GSplit_f, ↓GSplit_tf, ↓GSplit_ft, Nat.reduceAdd, Nat.reduceEqDiff, Nat.reduceLeDiff, Nat.reduceMul, Nat.reduceLT, reduceIte, Int.reduceToNat, bne_self_eq_false, beq_self_eq_true, w64_id, cast_succ, Bool.false_eq_true, Bool.and_true, Bool.true_and, Bool.and_false, Bool.false_and, Bool.not_not]))
  rw [counts_nil]
  refine SW.loopE (fun E0 H0 q E' H' => ∃ i : Nat, i ≤ 1 ∧ q = 1 - i ∧ E' = aput E0 6 (I i) ∧ H' = H ++ [⟨0, 2, 1, (counts n (if i = 0 then [] else dl n set set)).map I⟩]) 1 ⟨0, by omega, by omega, rfl, rfl⟩ ?_
  rintro q E' H' ⟨i, hi, rfl, rfl, rfl⟩
  simp (config := { maxSteps := 1000000 }) (disch := (first | omega | (simp only [go_sem]; try omega))) only [go_sem, ↓GSplit_t, ↓GSplit_f, ↓GSplit_tf, ↓GSplit_ft, Nat.reduceAdd, Nat.reduceEqDiff, Nat.reduceLeDiff, Nat.reduceMul, Nat.reduceLT, reduceIte, Int.reduceToNat, bne_self_eq_false, beq_self_eq_true, w64_id, cast_succ, Bool.false_eq_true, Bool.and_true, Bool.true_and, Bool.and_false, Bool.false_and, Bool.not_not]
  repeat (first | (with_reducible refine SW.seq ?_) | (with_reducible refine SW.block ?_) | (with_reducible refine SW.rowC ?_) | (with_reducible refine SW.skip ?_) | (with_reducible refine SW.exit ?_) | (with_reducible intro _) | (with_reducible refine And.intro (by omega) ?_) | (simp (config := { maxSteps := 1000000 }) (disch := (first | omega | (simp only [go_sem]; try omega))) only [go_sem, ↓GSplit_t, ↓GSplit_f, ↓GSplit_tf, ↓GSplit_ft, Nat.reduceAdd, Nat.reduceEqDiff, Nat.reduceLeDiff, Nat.reduceMul, Nat.reduceLT, reduceIte, Int.reduceToNat, bne_self_eq_false, beq_self_eq_true, w64_id, cast_succ, Bool.false_eq_true, Bool.and_true, Bool.true_and, Bool.and_false, Bool.false_and, Bool.not_not]))
  (first | refine SW.condD rfl (fun h => ?_) (fun h => ?_) | refine SW.condN rfl (fun h => ?_) (fun h => ?_) | refine SW.condNB rfl (fun h => ?_) (fun h => ?_) | refine SW.condB rfl (fun h => ?_) (fun h => ?_))
  · have : i = 0 := by omega
    subst this
    rw [if_pos rfl]
    repeat (first | (with_reducible refine SW.seq ?_) | (with_reducible refine SW.block ?_) | (with_reducible refine SW.rowC ?_) | (with_reducible refine SW.skip ?_) | (with_reducible refine SW.exit ?_) | (with_reducible intro _) | (with_reducible refine And.intro (by omega) ?_) | (simp (config := { maxSteps := 1000000 }) (disch := (first | omega | (simp only [go_sem]; try omega))) only [go_sem, ↓GSplit_t, ↓GSplit_f, ↓GSplit_tf, ↓GSplit_ft, Nat.reduceAdd, Nat.reduceEqDiff, Nat.reduceLeDiff, Nat.reduceMul, Nat.reduceLT, reduceIte, Int.reduceToNat, bne_self_eq_false, beq_self_eq_true, w64_id, cast_succ, Bool.false_eq_true, Bool.and_true, Bool.true_and, Bool.and_false, Bool.false_and, Bool.not_not, List.getD_cons_zero]))
    refine SW.loopE (fun E0 H0 q E' H' => ∃ (pre post : List Int), set = pre ++ post ∧ q = post.length ∧ E' = aput E0 7 (I pre.length) ∧ H' = H ++ [⟨0, 2, 1, (counts n (dl n set pre)).map I⟩]) set.length ⟨[], set, rfl, rfl, rfl, rfl⟩ ?_
    rintro q E' H' ⟨pre, post, hp, rfl, rfl, rfl⟩
    simp (config := { maxSteps := 1000000 }) (disch := (first | omega | (simp only [go_sem]; try omega))) only [go_sem, ↓GSplit_t, ↓GSplit_f, ↓GSplit_tf, ↓GSplit_ft, Nat.reduceAdd, Nat.reduceEqDiff, Nat.reduceLeDiff, Nat.reduceMul, Nat.reduceLT, reduceIte, Int.reduceToNat, bne_self_eq_false, beq_self_eq_true, w64_id, cast_succ, Bool.false_eq_true, Bool.and_true, Bool.true_and, Bool.and_false, Bool.false_and, Bool.not_not]
    repeat (first | (with_reducible refine SW.seq ?_) | (with_reducible refine SW.block ?_) | (with_reducible refine SW.rowC ?_) | (with_reducible refine SW.skip ?_) | (with_reducible refine SW.exit ?_) | (with_reducible intro _) | (with_reducible refine And.intro (by omega) ?_) | (simp (config := { maxSteps := 1000000 }) (disch := (first | omega | (simp only [go_sem]; try omega))) only [go_sem, ↓GSplit_t, ↓GSplit_f, ↓GSplit_tf, ↓GSplit_ft, Nat.reduceAdd, Nat.reduceEqDiff, Nat.reduceLeDiff, Nat.reduceMul, Nat.reduceLT, reduceIte, Int.reduceToNat, bne_self_eq_false, beq_self_eq_true, w64_id, cast_succ, Bool.false_eq_true, Bool.and_true, Bool.true_and, Bool.and_false, Bool.false_and, Bool.not_not, List.getD_cons_zero]))
    (first | refine SW.condD rfl (fun h2 => ?_) (fun h2 => ?_) | refine SW.condN rfl (fun h2 => ?_) (fun h2 => ?_) | refine SW.condNB rfl (fun h2 => ?_) (fun h2 => ?_) | refine SW.condB rfl (fun h2 => ?_) (fun h2 => ?_))
    · cases post with
      | nil => exfalso; simp at hp; subst hp; omega
      | cons a post =>
        have hg : set.getD pre.length 0 = a := by subst hp; simp
        have ha := hs a (by subst hp; simp)
        have hdl := dl_len n set pre
        have hmul : pre.length * set.length ≤ 1000 * 1000 := Nat.mul_le_mul (by omega) hl
        repeat (first | (with_reducible refine SW.seq ?_) | (with_reducible refine SW.block ?_) | (with_reducible refine SW.rowC ?_) | (with_reducible refine SW.skip ?_) | (with_reducible refine SW.exit ?_) | (with_reducible intro _) | (with_reducible refine And.intro (by omega) ?_) | (simp (config := { maxSteps := 1000000 }) (disch := (first | omega | (simp only [go_sem]; try omega))) only [go_sem, ↓GSplit_t, ↓GSplit_f, ↓GSplit_tf, ↓GSplit_ft, Nat.reduceAdd, Nat.reduceEqDiff, Nat.reduceLeDiff, Nat.reduceMul, Nat.reduceLT, reduceIte, Int.reduceToNat, bne_self_eq_false, beq_self_eq_true, w64_id, cast_succ, Bool.false_eq_true, Bool.and_true, Bool.true_and, Bool.and_false, Bool.false_and, Bool.not_not, hg]))
        refine SW.loopE (fun E0 H0 q E' H' => ∃ (pr po : List Int), set = pr ++ po ∧ q = po.length ∧ E' = aput E0 8 (I pr.length) ∧ H' = H ++ [⟨0, 2, 1, (counts n (dl n set pre ++ da n a pr)).map I⟩]) set.length ⟨[], set, rfl, rfl, rfl, by simp [da]⟩ ?_
        rintro q E' H' ⟨pr, po, hpx, rfl, rfl, rfl⟩
        simp (config := { maxSteps := 1000000 }) (disch := (first | omega | (simp only [go_sem]; try omega))) only [go_sem, ↓GSplit_t, ↓GSplit_f, ↓GSplit_tf, ↓GSplit_ft, Nat.reduceAdd, Nat.reduceEqDiff, Nat.reduceLeDiff, Nat.reduceMul, Nat.reduceLT, reduceIte, Int.reduceToNat, bne_self_eq_false, beq_self_eq_true, w64_id, cast_succ, Bool.false_eq_true, Bool.and_true, Bool.true_and, Bool.and_false, Bool.false_and, Bool.not_not]
        repeat (first | (with_reducible refine SW.seq ?_) | (with_reducible refine SW.block ?_) | (with_reducible refine SW.rowC ?_) | (with_reducible refine SW.skip ?_) | (with_reducible refine SW.exit ?_) | (with_reducible intro _) | (with_reducible refine And.intro (by omega) ?_) | (simp (config := { maxSteps := 1000000 }) (disch := (first | omega | (simp only [go_sem]; try omega))) only [go_sem, ↓GSplit_t, ↓GSplit_f, ↓GSplit_tf, ↓GSplit_ft, Nat.reduceAdd, Nat.reduceEqDiff, Nat.reduceLeDiff, Nat.reduceMul, Nat.reduceLT, reduceIte, Int.reduceToNat, bne_self_eq_false, beq_self_eq_true, w64_id, cast_succ, Bool.false_eq_true, Bool.and_true, Bool.true_and, Bool.and_false, Bool.false_and, Bool.not_not, List.getD_cons_zero]))
        (first | refine SW.condD rfl (fun h3 => ?_) (fun h3 => ?_) | refine SW.condN rfl (fun h3 => ?_) (fun h3 => ?_) | refine SW.condNB rfl (fun h3 => ?_) (fun h3 => ?_) | refine SW.condB rfl (fun h3 => ?_) (fun h3 => ?_))
        · cases po with
          | nil => exfalso; simp at hpx; rw [hpx] at h3; omega
          | cons b po =>
            have hgb : set.getD pr.length 0 = b := by rw [hpx]; simp
            have hb := hs b (by rw [hpx]; simp)
            have hne : (n : Int) ≠ 0 := by omega
            have hprl : pr.length ≤ set.length := by omega
            have hda := da_len n a pr
            have hdr := diff_range ha hb
            have hll := counts_length n (dl n set pre ++ da n a pr)
            have htk : ((counts n (dl n set pre ++ da n a pr)).map I).take n = (counts n (dl n set pre ++ da n a pr)).map I := List.take_of_length_le (by simp [hll])
            have hcnt : (dl n set pre ++ da n a pr).count ((a - b + n).tmod n) ≤ 1001000 := by
              have h7 := List.count_le_length (a := (a - b + n).tmod n) (l := dl n set pre ++ da n a pr)
              rw [List.length_append] at h7
              omega
            have hpi := pos_iff hnd hp hpx
            repeat (first | (with_reducible refine SW.seq ?_) | (with_reducible refine SW.block ?_) | (with_reducible refine SW.rowC ?_) | (with_reducible refine SW.skip ?_) | (with_reducible refine SW.exit ?_) | (with_reducible intro _) | (with_reducible refine And.intro (by omega) ?_) | (simp (config := { maxSteps := 1000000 }) (disch := (first | omega | (simp only [go_sem]; try omega))) only [go_sem, ↓GSplit_t, ↓GSplit_f, ↓GSplit_tf, ↓GSplit_ft, Nat.reduceAdd, Nat.reduceEqDiff, Nat.reduceLeDiff, Nat.reduceMul, Nat.reduceLT, reduceIte, Int.reduceToNat, bne_self_eq_false, beq_self_eq_true, w64_id, cast_succ, Bool.false_eq_true, Bool.and_true, Bool.true_and, Bool.and_false, Bool.false_and, Bool.not_not, hgb]))
            (first | refine SW.condD rfl (fun h4 => ?_) (fun h4 => ?_) | refine SW.condN rfl (fun h4 => ?_) (fun h4 => ?_) | refine SW.condNB rfl (fun h4 => ?_) (fun h4 => ?_) | refine SW.condB rfl (fun h4 => ?_) (fun h4 => ?_))
            · have h4' : ¬ b = a := fun h => h4 (by have := hpi.2 h; omega)
              repeat (first | (with_reducible refine SW.seq ?_) | (with_reducible refine SW.block ?_) | (with_reducible refine SW.rowC ?_) | (with_reducible refine SW.skip ?_) | (with_reducible refine SW.exit ?_) | (with_reducible intro _) | (with_reducible refine And.intro (by omega) ?_) | (simp (config := { maxSteps := 1000000 }) (disch := (first | omega | (simp only [go_sem]; try omega))) only [go_sem, ↓GSplit_t, ↓GSplit_f, ↓GSplit_tf, ↓GSplit_ft, Nat.reduceAdd, Nat.reduceEqDiff, Nat.reduceLeDiff, Nat.reduceMul, Nat.reduceLT, reduceIte, Int.reduceToNat, bne_self_eq_false, beq_self_eq_true, w64_id, cast_succ, Bool.false_eq_true, Bool.and_true, Bool.true_and, Bool.and_false, Bool.false_and, Bool.not_not, hg, hgb, hne, htk, List.getD_cons_zero, counts_get n _ _ hdr.1 hdr.2]))
              refine SLoop.next po.length (by simp) ⟨pr ++ [b], po, by simp [hpx], rfl, ?_, ?_⟩
              · simp [go_sem]
              · rw [counts_set n _ _ hdr.1, da_snoc, if_neg h4', List.append_assoc]
            · have h4' : b = a := hpi.1 (by omega)
              repeat (first | (with_reducible refine SW.seq ?_) | (with_reducible refine SW.block ?_) | (with_reducible refine SW.rowC ?_) | (with_reducible refine SW.skip ?_) | (with_reducible refine SW.exit ?_) | (with_reducible intro _) | (with_reducible refine And.intro (by omega) ?_) | (simp (config := { maxSteps := 1000000 }) (disch := (first | omega | (simp only [go_sem]; try omega))) only [go_sem, ↓GSplit_t, ↓GSplit_f, ↓GSplit_tf, ↓GSplit_ft, Nat.reduceAdd, Nat.reduceEqDiff, Nat.reduceLeDiff, Nat.reduceMul, Nat.reduceLT, reduceIte, Int.reduceToNat, bne_self_eq_false, beq_self_eq_true, w64_id, cast_succ, Bool.false_eq_true, Bool.and_true, Bool.true_and, Bool.and_false, Bool.false_and, Bool.not_not]))
              refine SLoop.next po.length (by simp) ⟨pr ++ [b], po, by simp [hpx], rfl, ?_, ?_⟩
              · simp [go_sem]
              · rw [da_snoc, if_pos h4', List.append_nil]
        · have : po = [] := by cases po with
            | nil => rfl
            | cons y po => exfalso; rw [hpx] at h3; simp at h3; omega
          subst this
          rw [List.append_nil] at hpx
          subst hpx
          repeat (first | (with_reducible refine SW.seq ?_) | (with_reducible refine SW.block ?_) | (with_reducible refine SW.rowC ?_) | (with_reducible refine SW.skip ?_) | (with_reducible refine SW.exit ?_) | (with_reducible intro _) | (with_reducible refine And.intro (by omega) ?_) | (simp (config := { maxSteps := 1000000 }) (disch := (first | omega | (simp only [go_sem]; try omega))) only [go_sem, ↓GSplit_t, ↓GSplit_f, ↓GSplit_tf, ↓GSplit_ft, Nat.reduceAdd, Nat.reduceEqDiff, Nat.reduceLeDiff, Nat.reduceMul, Nat.reduceLT, reduceIte, Int.reduceToNat, bne_self_eq_false, beq_self_eq_true, w64_id, cast_succ, Bool.false_eq_true, Bool.and_true, Bool.true_and, Bool.and_false, Bool.false_and, Bool.not_not]))
          refine SLoop.next post.length (by simp) ⟨pre ++ [a], post, by simp [hp], rfl, ?_, ?_⟩
          · simp [go_sem]
          · rw [dl_snoc]
    · have : post = [] := by cases post with
        | nil => rfl
        | cons x post => exfalso; subst hp; simp at h2; omega
      subst this
      rw [List.append_nil] at hp
      subst hp
      repeat (first | (with_reducible refine SW.seq ?_) | (with_reducible refine SW.block ?_) | (with_reducible refine SW.rowC ?_) | (with_reducible refine SW.skip ?_) | (with_reducible refine SW.exit ?_) | (with_reducible intro _) | (with_reducible refine And.intro (by omega) ?_) | (simp (config := { maxSteps := 1000000 }) (disch := (first | omega | (simp only [go_sem]; try omega))) only [go_sem, ↓GSplit_t, ↓GSplit_f, ↓GSplit_tf, ↓GSplit_ft, Nat.reduceAdd, Nat.reduceEqDiff, Nat.reduceLeDiff, Nat.reduceMul, Nat.reduceLT, reduceIte, Int.reduceToNat, bne_self_eq_false, beq_self_eq_true, w64_id, cast_succ, Bool.false_eq_true, Bool.and_true, Bool.true_and, Bool.and_false, Bool.false_and, Bool.not_not]))
      refine SLoop.next 0 (by omega) ⟨1, by omega, by omega, ?_, ?_⟩
      · simp [go_sem]
      · rw [if_neg (by omega)]
  · have : i = 1 := by omega
    subst this
    rw [if_neg (by omega)]
    repeat (first | (with_reducible refine SW.seq ?_) | (with_reducible refine SW.block ?_) | (with_reducible refine SW.rowC ?_) | (with_reducible refine SW.skip ?_) | (with_reducible refine SW.exit ?_) | (with_reducible intro _) | (with_reducible refine And.intro (by omega) ?_) | (simp (config := { maxSteps := 1000000 }) (disch := (first | omega | (simp only [go_sem]; try omega))) only [go_sem, ↓GSplit_t, ↓GSplit_f, ↓GSplit_tf, ↓GSplit_ft, Nat.reduceAdd, Nat.reduceEqDiff, Nat.reduceLeDiff, Nat.reduceMul, Nat.reduceLT, reduceIte, Int.reduceToNat, bne_self_eq_false, beq_self_eq_true, w64_id, cast_succ, Bool.false_eq_true, Bool.and_true, Bool.true_and, Bool.and_false, Bool.false_and, Bool.not_not]))
    refine SW.ret ?_; (try simp only [go_sem]); (first | refine FunPost.one ?_ | refine FunPost.two ?_ | refine FunPost.three ?_); (try simp (config := { maxSteps := 1000000 }) (disch := (first | omega | (simp only [go_sem]; try omega))) only [go_sem, ↓GSplit_t, ↓GSplit_f, ↓GSplit_tf, ↓GSplit_ft, Nat.reduceAdd, Nat.reduceEqDiff, Nat.reduceLeDiff, Nat.reduceMul, Nat.reduceLT, reduceIte, Int.reduceToNat, bne_self_eq_false, beq_self_eq_true, w64_id, cast_succ, Bool.false_eq_true, Bool.and_true, Bool.true_and, Bool.and_false, Bool.false_and, Bool.not_not])
    refine GR.of ?_
    have h5 := newL_of (H := H) (k := H.length) (ver := 0) (ty := 2) (xs := counts n (dl n set set)) (ext := [⟨0, 2, 1, (counts n (dl n set set)).map I⟩]) (Nat.le_refl _) (by simp)
    rw [counts_length] at h5
    exact h5

abbrev tyS13 : Nat := 135
def sB (n : Nat) (k lam : Int) (nodes budget : Nat) (v : AV) : Blk := ⟨0, tyS13, 1, [I n, I k, I lam, I nodes, I budget, v]⟩

section
variable {H : List Blk} {p r : Nat} {X X' Y Y' : Blk}
theorem upd_p (hp : p < H.length) (h : p ≠ r) : ((H.set p X).set r Y)[p]? = some X := by rw [List.getElem?_set_ne (Ne.symm h)]; exact List.getElem?_set_self hp
theorem upd_r (hr : r < H.length) : ((H.set p X).set r Y)[r]? = some Y := List.getElem?_set_self (by simpa using hr)
theorem upd_sp (h : p ≠ r) : ((H.set p X).set r Y).set p X' = (H.set p X').set r Y := by rw [List.set_comm _ _ (Ne.symm h), List.set_set]
theorem upd_sr : ((H.set p X).set r Y).set r Y' = (H.set p X).set r Y' := by rw [List.set_set]
theorem updA_p {e : List Blk} (hp : p < H.length) (h : p ≠ r) : (((H.set p X).set r Y) ++ e).set p X' = ((H.set p X').set r Y) ++ e := by rw [List.set_append_left _ _ (by simpa using hp), upd_sp h]
theorem updA_r {e : List Blk} (hr : r < H.length) : (((H.set p X).set r Y) ++ e).set r Y' = ((H.set p X).set r Y') ++ e := by rw [List.set_append_left _ _ (by simpa using hr), upd_sr]
theorem set_id {H : List Blk} {p : Nat} {b : Blk} (h : H[p]? = some b) : H.set p b = H := by
  obtain ⟨h1, h2⟩ := List.getElem?_eq_some_iff.1 h
  rw [← h2]; exact List.set_getElem_self h1
end

theorem SlcG_nm {H : List Blk} {K : AV → Prop} {r v l n : Nat} {y : Int} {cells : List AV} (hs : (H[r]?).map Blk.sz = some 1) (h0 : 0 ≤ y) (h1 : y ≤ n) : SlcG 1 (.nm r v 0 l) 0 y H K (some (n, cells)) = K (.nm r v 0 y.toNat) := by
  simp only [SlcG, if_true]
  refine propext ⟨fun h => h.2.2.2.2, fun h => ⟨by omega, h0, h1, ?_, h⟩⟩
  intro i ver off len he
  cases he
  exact hs

theorem view_nmL {H : List Blk} {r ver ty l : Nat} {zs : List Int} (h : H[r]? = some ⟨ver, ty, 1, zs.map I⟩) : aview H (.nm r ver 0 l) = some (l, (zs.map I).take l) := by
  simp only [aview, h, if_true, List.drop_zero, Nat.mul_one]

/-- All but two blocks are as they were. -/
def Pres (p r : Nat) (H H' : List Blk) : Prop := H.length ≤ H'.length ∧ ∀ j, j ≠ p → j ≠ r → j < H.length → H'[j]? = H[j]?
theorem Pres.trans {p r : Nat} {A B C : List Blk} (h : Pres p r A B) (h2 : Pres p r B C) : Pres p r A C :=
  ⟨Nat.le_trans h.1 h2.1, fun j h3 h4 h5 => (h2.2 j h3 h4 (Nat.lt_of_lt_of_le h5 h.1)).trans (h.2 j h3 h4 h5)⟩
theorem pres_upd {p r : Nat} {H : List Blk} {X Y : Blk} : Pres p r H ((H.set p X).set r Y) :=
  ⟨by simp, fun j h1 h2 h3 => by rw [List.getElem?_set_ne (Ne.symm h2), List.getElem?_set_ne (Ne.symm h1)]⟩
theorem pres_app {p r : Nat} {H e : List Blk} : Pres p r H (H ++ e) := ⟨by simp, fun j h1 h2 h3 => List.getElem?_append_left h3⟩

def VPost (n : Nat) (k lam : Int) (budget p r : Nat) (set : List Int) (H : List Blk) (res : Nat × List Int × Nat) (rv : AV) (H' : List Blk) : Prop :=
  if res.1 = 0 then rv = Bv false ∧ ∃ (ver : Nat) (zs : List Int), H' = (H.set p (sB n k lam (budget - res.2.2) budget (.nm r ver 0 set.length))).set r ⟨ver, 2, 1, zs.map I⟩ ∧ zs.take set.length = set
  else if res.1 = 1 then rv = Bv true ∧ ∃ (ver : Nat) (zs : List Int) (nodes : Nat), nodes ≤ budget ∧ H'[p]? = some (sB n k lam nodes budget (.nm r ver 0 res.2.1.length)) ∧ H'[r]? = some ⟨ver, 2, 1, zs.map I⟩ ∧ zs.take res.2.1.length = res.2.1 ∧ Pres p r H H'
  else rv = Bv true ∧ (∃ v, H'[p]? = some (sB n k lam (budget + 1) budget v)) ∧ Pres p r H H'

theorem visit_ok (n : Nat) (k lam : Int) (hn : 2 ≤ n ∧ n ≤ 32) (hlam : 1 ≤ lam) (budget : Nat) (hbu : budget ≤ 20000) : ∀ (d : Nat) (H : List Blk) (p r ver : Nat) (set zs : List Int) (l : Nat), H[p]? = some (sB n k lam (budget - l) budget (.nm r ver 0 set.length)) → H[r]? = some ⟨ver, 2, 1, zs.map I⟩ → zs.take set.length = set → p ≠ r → set ≠ [] → asc 0 (n - 1) set = true →
    (n - lastI set).toNat ≤ d → l ≤ budget → ACalls Try.prog f_spec_l13Search_visit [.pc p 0 0] H (VPost n k lam budget p r set H (visitM n k lam d set l)) := by
  intro d
  induction d with
  | zero =>
    intro H p r ver set zs l hp hr htk0 hpr hne ha hd
    exfalso
    have hm := asc_mem ha (lastI set) (by
      unfold lastI
      have : 0 < set.length := List.length_pos_iff.2 hne
      simp [List.getElem?_eq_getElem (show set.length - 1 < set.length by omega)])
    omega
  | succ d ih =>
    intro H p r ver set zs l hp hr htk0 hpr hne ha hd hl
    have htk : (zs.map I).take set.length = set.map I := by rw [← List.map_take, htk0]
    have hm := asc_mem ha
    have hpos : 0 < set.length := List.length_pos_iff.2 hne
    have hlen : set.length ≤ 32 := by rcases asc_len ha with h | h <;> simp_all; omega
    have hlast := hm (lastI set) (by unfold lastI; simp [List.getElem?_eq_getElem (show set.length - 1 < set.length by omega)])
    have hplt := (List.getElem?_eq_some_iff.1 hp).1
    have hrlt := (List.getElem?_eq_some_iff.1 hr).1
    unfold sB at hp
    refine ACalls.introB s_spec_l13Search_visit (by simp) ?_; intro hB hA; unfold c_spec_l13Search_visit; simp (config := { maxSteps := 1000000 }) (disch := (first | omega | (simp only [go_sem]; try omega))) only [go_sem, ↓GSplit_t, ↓GSplit_f, ↓GSplit_tf, ↓GSplit_ft, Nat.reduceAdd, Nat.reduceEqDiff, Nat.reduceLeDiff, Nat.reduceMul, Nat.reduceLT, reduceIte, Int.reduceToNat, bne_self_eq_false, beq_self_eq_true, w64_id, cast_succ, Bool.false_eq_true, Bool.and_true, Bool.true_and, Bool.and_false, Bool.false_and, Bool.not_not]
    refine SW.seq ?_; refine SW.rowC ?_; simp (config := { maxSteps := 1000000 }) (disch := (first | omega | (simp only [go_sem]; try omega))) only [go_sem, ↓GSplit_t, ↓GSplit_f, ↓GSplit_tf, ↓GSplit_ft, Nat.reduceAdd, Nat.reduceEqDiff, Nat.reduceLeDiff, Nat.reduceMul, Nat.reduceLT, reduceIte, Int.reduceToNat, bne_self_eq_false, beq_self_eq_true, w64_id, cast_succ, Bool.false_eq_true, Bool.and_true, Bool.true_and, Bool.and_false, Bool.false_and, Bool.not_not]
    refine SW.seq ?_; refine SW.rowC ?_; simp (config := { maxSteps := 1000000 }) (disch := (first | omega | (simp only [go_sem]; try omega))) only [go_sem, ↓GSplit_t, ↓GSplit_f, ↓GSplit_tf, ↓GSplit_ft, Nat.reduceAdd, Nat.reduceEqDiff, Nat.reduceLeDiff, Nat.reduceMul, Nat.reduceLT, reduceIte, Int.reduceToNat, bne_self_eq_false, beq_self_eq_true, w64_id, cast_succ, Bool.false_eq_true, Bool.and_true, Bool.true_and, Bool.and_false, Bool.false_and, Bool.not_not, pc_ld hp, pc_alive hp]
    rw [pc_st hp (by simp)]
    have en : ((budget - l : Nat) : Int) + 1 = ((budget - l + 1 : Nat) : Int) := rfl
    simp (config := { maxSteps := 1000000 }) (disch := (first | omega | (simp only [go_sem]; try omega))) only [go_sem, ↓GSplit_t, ↓GSplit_f, ↓GSplit_tf, ↓GSplit_ft, Nat.reduceAdd, Nat.reduceEqDiff, Nat.reduceLeDiff, Nat.reduceMul, Nat.reduceLT, reduceIte, Int.reduceToNat, bne_self_eq_false, beq_self_eq_true, w64_id, cast_succ, Bool.false_eq_true, Bool.and_true, Bool.true_and, Bool.and_false, Bool.false_and, Bool.not_not, en]
    have hH1 : H.set p ⟨0, tyS13, 1, [I n, I k, I lam, I ((budget - l + 1 : Nat) : Int), I budget, .nm r ver 0 set.length]⟩ = (H.set p (sB n k lam (budget - l + 1) budget (.nm r ver 0 set.length))).set r ⟨ver, 2, 1, zs.map I⟩ := by
      rw [set_id (p := r)]
      · rfl
      · rw [List.getElem?_set_ne hpr]; exact hr
    rw [hH1]
    rw [visitM]
    have hplt1 : p < (H.set p (sB n k lam (budget - l + 1) budget (.nm r ver 0 set.length))).length := by simpa using hplt
    have hp1 : ((H.set p (sB n k lam (budget - l + 1) budget (.nm r ver 0 set.length))).set r ⟨ver, 2, 1, zs.map I⟩)[p]? = some (sB n k lam (budget - l + 1) budget (.nm r ver 0 set.length)) := upd_p hplt hpr
    have hr1 : ((H.set p (sB n k lam (budget - l + 1) budget (.nm r ver 0 set.length))).set r ⟨ver, 2, 1, zs.map I⟩)[r]? = some ⟨ver, 2, 1, zs.map I⟩ := upd_r hrlt
    have hBU : ∀ (nodes : Nat) (v' : Nat) (ln : Nat) (cs : List Int), HB ((H.set p (sB n k lam nodes budget (.nm r v' 0 ln))).set r ⟨v', 2, 1, cs.map I⟩) := by
      intro nodes v' ln cs
      refine (hB.set p ?_).set r ?_
      · unfold sB; simp only [List.forall_mem_cons]; (simp only [go_sem, Nat.reduceAdd, Nat.reduceEqDiff, reduceIte, and_self, and_true, true_and, implies_true, Bel_lit, Bel_I, Bel_Bv, Bel_nil, Bel_junk, Bel_nm, Bel_pc, Bel_il, Bel_agg, Bel_tup, Bel_fn, Bel_el, all_mapI, all_mapB, all_mapS, all_nilB, all_consB, EB_nil, EB_cons, BB_nil, BB_cons, Bel_ilS, Bel_ilSS, Bel_ilB, List.getElem?_cons_zero, List.take_succ_cons, List.take_zero, keep_nil, keep_cons, and_true, true_and, List.not_mem_nil, false_implies]; try omega)
      · show ∀ c ∈ cs.map I, Bel _ c
        rw [all_mapI]; trivial
    have hB1 := hBU (budget - l + 1) ver set.length zs
    have hl1 : ((H.set p (sB n k lam (budget - l + 1) budget (.nm r ver 0 set.length))).set r ⟨ver, 2, 1, zs.map I⟩).length = H.length := by simp
    generalize hU : (H.set p (sB n k lam (budget - l + 1) budget (.nm r ver 0 set.length))).set r ⟨ver, 2, 1, zs.map I⟩ = U at *
    clear hH1
    have hp1' := hp1
    unfold sB at hp1
    repeat (first | (with_reducible refine SW.seq ?_) | (with_reducible refine SW.block ?_) | (with_reducible refine SW.rowC ?_) | (with_reducible refine SW.skip ?_) | (with_reducible refine SW.exit ?_) | (with_reducible intro _) | (with_reducible refine And.intro (by omega) ?_) | (simp (config := { maxSteps := 1000000 }) (disch := (first | omega | (simp only [go_sem]; try omega))) only [go_sem, ↓GSplit_t, ↓GSplit_f, ↓GSplit_tf, ↓GSplit_ft, Nat.reduceAdd, Nat.reduceEqDiff, Nat.reduceLeDiff, Nat.reduceMul, Nat.reduceLT, reduceIte, Int.reduceToNat, bne_self_eq_false, beq_self_eq_true, w64_id, cast_succ, Bool.false_eq_true, Bool.and_true, Bool.true_and, Bool.and_false, Bool.false_and, Bool.not_not, pc_ld hp1, pc_alive hp1]))
    by_cases hl0 : l = 0
    · subst hl0
      (first | refine SW.condD rfl (fun h => ?_) (fun h => ?_) | refine SW.condN rfl (fun h => ?_) (fun h => ?_) | refine SW.condNB rfl (fun h => ?_) (fun h => ?_) | refine SW.condB rfl (fun h => ?_) (fun h => ?_))
      · repeat (first | (with_reducible refine SW.seq ?_) | (with_reducible refine SW.block ?_) | (with_reducible refine SW.rowC ?_) | (with_reducible refine SW.skip ?_) | (with_reducible refine SW.exit ?_) | (with_reducible intro _) | (with_reducible refine And.intro (by omega) ?_) | (simp (config := { maxSteps := 1000000 }) (disch := (first | omega | (simp only [go_sem]; try omega))) only [go_sem, ↓GSplit_t, ↓GSplit_f, ↓GSplit_tf, ↓GSplit_ft, Nat.reduceAdd, Nat.reduceEqDiff, Nat.reduceLeDiff, Nat.reduceMul, Nat.reduceLT, reduceIte, Int.reduceToNat, bne_self_eq_false, beq_self_eq_true, w64_id, cast_succ, Bool.false_eq_true, Bool.and_true, Bool.true_and, Bool.and_false, Bool.false_and, Bool.not_not]))
        refine SW.ret ?_; (try simp only [go_sem]); (first | refine FunPost.one ?_ | refine FunPost.two ?_ | refine FunPost.three ?_); (try simp (config := { maxSteps := 1000000 }) (disch := (first | omega | (simp only [go_sem]; try omega))) only [go_sem, ↓GSplit_t, ↓GSplit_f, ↓GSplit_tf, ↓GSplit_ft, Nat.reduceAdd, Nat.reduceEqDiff, Nat.reduceLeDiff, Nat.reduceMul, Nat.reduceLT, reduceIte, Int.reduceToNat, bne_self_eq_false, beq_self_eq_true, w64_id, cast_succ, Bool.false_eq_true, Bool.and_true, Bool.true_and, Bool.and_false, Bool.false_and, Bool.not_not])
        refine GR.of ?_
        (try rw [if_pos rfl])
        unfold VPost
        rw [if_neg (by simp), if_neg (by simp)]
        exact ⟨rfl, ⟨_, hp1'⟩, hU ▸ pres_upd⟩
      · exfalso; omega
    (first | refine SW.condD rfl (fun h => ?_) (fun h => ?_) | refine SW.condN rfl (fun h => ?_) (fun h => ?_) | refine SW.condNB rfl (fun h => ?_) (fun h => ?_) | refine SW.condB rfl (fun h => ?_) (fun h => ?_))
    · exfalso; omega
    clear h
    rw [if_neg hl0]
    have e0 : budget - l + 1 = budget - (l - 1) := by omega
    rw [e0] at hU hp1'
    have hpt := get_appB2 hp1 [⟨0, 42, 1, [.nm r ver 0 set.length]⟩]
    have hv1 : RdS U (.nm r ver 0 set.length) set := by simp only [RdS, aview, hr1, if_true, List.drop_zero, Nat.mul_one, htk]
    have hv := RdS.append hv1 [⟨0, 42, 1, [.nm r ver 0 set.length]⟩]
    have hfz : Froz (U ++ [⟨0, 42, 1, [.nm r ver 0 set.length]⟩]) 0 (.nm r ver 0 set.length) (ilS set) := froz_rd (Nat.zero_le _) hv
    have hll := counts_length n (dl n set set)
    repeat (first | (with_reducible refine SW.seq ?_) | (with_reducible refine SW.block ?_) | (with_reducible refine SW.rowC ?_) | (with_reducible refine SW.skip ?_) | (with_reducible refine SW.exit ?_) | (with_reducible intro _) | (with_reducible refine And.intro (by omega) ?_) | (simp (config := { maxSteps := 1000000 }) (disch := (first | omega | (simp only [go_sem]; try omega))) only [go_sem, ↓GSplit_t, ↓GSplit_f, ↓GSplit_tf, ↓GSplit_ft, Nat.reduceAdd, Nat.reduceEqDiff, Nat.reduceLeDiff, Nat.reduceMul, Nat.reduceLT, reduceIte, Int.reduceToNat, bne_self_eq_false, beq_self_eq_true, w64_id, cast_succ, Bool.false_eq_true, Bool.and_true, Bool.true_and, Bool.and_false, Bool.false_and, Bool.not_not, pc_ld hp1, pc_alive hp1]))
    refine QcallW.of ((l13Table_new n set (by omega) (fun x hx => by have := hm x hx; omega) (by omega) (asc_nodup ha)).lendq (.cons (.I _) (.cons (froz_one (Nat.zero_le _) (by simp; rfl) hfz) .nil))) ?_
    repeat (first | (with_reducible refine SW.seq ?_) | (with_reducible refine SW.block ?_) | (with_reducible refine SW.rowC ?_) | (with_reducible refine SW.skip ?_) | (with_reducible refine SW.exit ?_) | (with_reducible intro _) | (with_reducible refine And.intro (by omega) ?_) | (simp (config := { maxSteps := 1000000 }) (disch := (first | omega | (simp only [go_sem]; try omega))) only [go_sem, ↓GSplit_t, ↓GSplit_f, ↓GSplit_tf, ↓GSplit_ft, Nat.reduceAdd, Nat.reduceEqDiff, Nat.reduceLeDiff, Nat.reduceMul, Nat.reduceLT, reduceIte, Int.reduceToNat, bne_self_eq_false, beq_self_eq_true, w64_id, cast_succ, Bool.false_eq_true, Bool.and_true, Bool.true_and, Bool.and_false, Bool.false_and, Bool.not_not, pc_ld hpt, pc_alive hpt]))
    refine SW.dropT 0 hB1 (by omega) (by simp) ?_ ?_ ?_
    · (simp only [go_sem, Nat.reduceAdd, Nat.reduceEqDiff, reduceIte, and_self, and_true, true_and, implies_true, Bel_lit, Bel_I, Bel_Bv, Bel_nil, Bel_junk, Bel_nm, Bel_pc, Bel_il, Bel_agg, Bel_tup, Bel_fn, Bel_el, all_mapI, all_mapB, all_mapS, all_nilB, all_consB, EB_nil, EB_cons, BB_nil, BB_cons, Bel_ilS, Bel_ilSS, Bel_ilB, List.getElem?_cons_zero, List.take_succ_cons, List.take_zero, keep_nil, keep_cons, and_true, true_and]; try omega)
    · (simp only [go_sem, Nat.reduceAdd, Nat.reduceEqDiff, reduceIte, and_self, and_true, true_and, implies_true, Bel_lit, Bel_I, Bel_Bv, Bel_nil, Bel_junk, Bel_nm, Bel_pc, Bel_il, Bel_agg, Bel_tup, Bel_fn, Bel_el, all_mapI, all_mapB, all_mapS, all_nilB, all_consB, EB_nil, EB_cons, BB_nil, BB_cons, Bel_ilS, Bel_ilSS, Bel_ilB, List.getElem?_cons_zero, List.take_succ_cons, List.take_zero, keep_nil, keep_cons, and_true, true_and]; try omega)
    simp only [List.take_zero, List.append_nil]
    refine SW.loopE (fun E0 H0 q E' H' => ∃ i : Nat, 1 ≤ i ∧ i ≤ n ∧ q = n - i ∧ E' = aput E0 4 (I i) ∧ H' = H0 ∧ ∀ j, 1 ≤ j → j < i → (counts n (dl n set set)).getD j 0 ≤ lam) (n - 1) ⟨1, by omega, by omega, rfl, rfl, rfl, fun j h1 h2 => by omega⟩ ?_
    rintro q E' H' ⟨i, hi1, hi2, rfl, rfl, rfl, hij⟩
    simp (config := { maxSteps := 1000000 }) (disch := (first | omega | (simp only [go_sem]; try omega))) only [go_sem, ↓GSplit_t, ↓GSplit_f, ↓GSplit_tf, ↓GSplit_ft, Nat.reduceAdd, Nat.reduceEqDiff, Nat.reduceLeDiff, Nat.reduceMul, Nat.reduceLT, reduceIte, Int.reduceToNat, bne_self_eq_false, beq_self_eq_true, w64_id, cast_succ, Bool.false_eq_true, Bool.and_true, Bool.true_and, Bool.and_false, Bool.false_and, Bool.not_not]
    repeat (first | (with_reducible refine SW.seq ?_) | (with_reducible refine SW.block ?_) | (with_reducible refine SW.rowC ?_) | (with_reducible refine SW.skip ?_) | (with_reducible refine SW.exit ?_) | (with_reducible intro _) | (with_reducible refine And.intro (by omega) ?_) | (simp (config := { maxSteps := 1000000 }) (disch := (first | omega | (simp only [go_sem]; try omega))) only [go_sem, ↓GSplit_t, ↓GSplit_f, ↓GSplit_tf, ↓GSplit_ft, Nat.reduceAdd, Nat.reduceEqDiff, Nat.reduceLeDiff, Nat.reduceMul, Nat.reduceLT, reduceIte, Int.reduceToNat, bne_self_eq_false, beq_self_eq_true, w64_id, cast_succ, Bool.false_eq_true, Bool.and_true, Bool.true_and, Bool.and_false, Bool.false_and, Bool.not_not, pc_ld hp1, pc_alive hp1]))
    (first | refine SW.condD rfl (fun h3 => ?_) (fun h3 => ?_) | refine SW.condN rfl (fun h3 => ?_) (fun h3 => ?_) | refine SW.condNB rfl (fun h3 => ?_) (fun h3 => ?_) | refine SW.condB rfl (fun h3 => ?_) (fun h3 => ?_))
    · repeat (first | (with_reducible refine SW.seq ?_) | (with_reducible refine SW.block ?_) | (with_reducible refine SW.rowC ?_) | (with_reducible refine SW.skip ?_) | (with_reducible refine SW.exit ?_) | (with_reducible intro _) | (with_reducible refine And.intro (by omega) ?_) | (simp (config := { maxSteps := 1000000 }) (disch := (first | omega | (simp only [go_sem]; try omega))) only [go_sem, ↓GSplit_t, ↓GSplit_f, ↓GSplit_tf, ↓GSplit_ft, Nat.reduceAdd, Nat.reduceEqDiff, Nat.reduceLeDiff, Nat.reduceMul, Nat.reduceLT, reduceIte, Int.reduceToNat, bne_self_eq_false, beq_self_eq_true, w64_id, cast_succ, Bool.false_eq_true, Bool.and_true, Bool.true_and, Bool.and_false, Bool.false_and, Bool.not_not, pc_ld hp1, pc_alive hp1]))
      (first | refine SW.condD rfl (fun h4 => ?_) (fun h4 => ?_) | refine SW.condN rfl (fun h4 => ?_) (fun h4 => ?_) | refine SW.condNB rfl (fun h4 => ?_) (fun h4 => ?_) | refine SW.condB rfl (fun h4 => ?_) (fun h4 => ?_))
      · have hb : badT n lam set = true := by
          unfold badT
          rw [List.any_eq_true]
          refine ⟨(counts n (dl n set set)).getD i 0, ?_, by simpa using h4⟩
          simp [List.getElem?_eq_getElem (show i < (counts n (dl n set set)).length by omega)]
        rw [if_pos hb]
        repeat (first | (with_reducible refine SW.seq ?_) | (with_reducible refine SW.block ?_) | (with_reducible refine SW.rowC ?_) | (with_reducible refine SW.skip ?_) | (with_reducible refine SW.exit ?_) | (with_reducible intro _) | (with_reducible refine And.intro (by omega) ?_) | (simp (config := { maxSteps := 1000000 }) (disch := (first | omega | (simp only [go_sem]; try omega))) only [go_sem, ↓GSplit_t, ↓GSplit_f, ↓GSplit_tf, ↓GSplit_ft, Nat.reduceAdd, Nat.reduceEqDiff, Nat.reduceLeDiff, Nat.reduceMul, Nat.reduceLT, reduceIte, Int.reduceToNat, bne_self_eq_false, beq_self_eq_true, w64_id, cast_succ, Bool.false_eq_true, Bool.and_true, Bool.true_and, Bool.and_false, Bool.false_and, Bool.not_not]))
        refine SW.ret ?_; (try simp only [go_sem]); (first | refine FunPost.one ?_ | refine FunPost.two ?_ | refine FunPost.three ?_); (try simp (config := { maxSteps := 1000000 }) (disch := (first | omega | (simp only [go_sem]; try omega))) only [go_sem, ↓GSplit_t, ↓GSplit_f, ↓GSplit_tf, ↓GSplit_ft, Nat.reduceAdd, Nat.reduceEqDiff, Nat.reduceLeDiff, Nat.reduceMul, Nat.reduceLT, reduceIte, Int.reduceToNat, bne_self_eq_false, beq_self_eq_true, w64_id, cast_succ, Bool.false_eq_true, Bool.and_true, Bool.true_and, Bool.and_false, Bool.false_and, Bool.not_not])
        refine GR.of ?_
        unfold VPost
        rw [if_pos rfl]
        exact ⟨rfl, ver, zs, hU.symm, htk0⟩
      · repeat (first | (with_reducible refine SW.seq ?_) | (with_reducible refine SW.block ?_) | (with_reducible refine SW.rowC ?_) | (with_reducible refine SW.skip ?_) | (with_reducible refine SW.exit ?_) | (with_reducible intro _) | (with_reducible refine And.intro (by omega) ?_) | (simp (config := { maxSteps := 1000000 }) (disch := (first | omega | (simp only [go_sem]; try omega))) only [go_sem, ↓GSplit_t, ↓GSplit_f, ↓GSplit_tf, ↓GSplit_ft, Nat.reduceAdd, Nat.reduceEqDiff, Nat.reduceLeDiff, Nat.reduceMul, Nat.reduceLT, reduceIte, Int.reduceToNat, bne_self_eq_false, beq_self_eq_true, w64_id, cast_succ, Bool.false_eq_true, Bool.and_true, Bool.true_and, Bool.and_false, Bool.false_and, Bool.not_not]))
        refine SLoop.next (n - (i + 1)) (by omega) ⟨i + 1, by omega, by omega, rfl, ?_, rfl, ?_⟩
        · simp [go_sem]
        · intro j h5 h6
          by_cases hji : j = i
          · subst hji; omega
          · exact hij j h5 (by omega)
    · have hi : n = i := by omega
      subst hi
      have hb : ¬ badT n lam set = true := by
        unfold badT
        rw [List.any_eq_true]
        rintro ⟨c, hc, hc2⟩
        obtain ⟨j, hj, rfl⟩ := List.getElem_of_mem hc
        have hc3 : lam < (counts n (dl n set set))[j] := by simpa using hc2
        have hge : (counts n (dl n set set)).getD j 0 = (counts n (dl n set set))[j] := by simp [List.getElem?_eq_getElem hj]
        rw [← hge] at hc3
        by_cases hj0 : j = 0
        · subst hj0
          have h0 := counts_get n (dl n set set) 0 (by omega) (by omega)
          have h0' : (counts n (dl n set set)).getD 0 0 = ((dl n set set).count 0 : Int) := h0
          rw [h0'] at hc3
          have : (dl n set set).count 0 = 0 := by
            rw [List.count_eq_zero]
            intro hmem
            obtain ⟨a, ha2, hb2⟩ := List.mem_flatMap.1 hmem
            unfold da at hb2
            obtain ⟨b, hb3, hb4⟩ := List.mem_map.1 hb2
            rw [List.mem_filter] at hb3
            have q1 := hm a ha2
            have q2 := hm b hb3.1
            exact diff_ne (n := n) (a := a) (b := b) (by omega) (by omega) (by simpa using hb3.2) hb4
          omega
        · have := hij j (by omega) (by omega); omega
      rw [if_neg hb]
      repeat (first | (with_reducible refine SW.seq ?_) | (with_reducible refine SW.block ?_) | (with_reducible refine SW.rowC ?_) | (with_reducible refine SW.skip ?_) | (with_reducible refine SW.exit ?_) | (with_reducible intro _) | (with_reducible refine And.intro (by omega) ?_) | (simp (config := { maxSteps := 1000000 }) (disch := (first | omega | (simp only [go_sem]; try omega))) only [go_sem, ↓GSplit_t, ↓GSplit_f, ↓GSplit_tf, ↓GSplit_ft, Nat.reduceAdd, Nat.reduceEqDiff, Nat.reduceLeDiff, Nat.reduceMul, Nat.reduceLT, reduceIte, Int.reduceToNat, bne_self_eq_false, beq_self_eq_true, w64_id, cast_succ, Bool.false_eq_true, Bool.and_true, Bool.true_and, Bool.and_false, Bool.false_and, Bool.not_not, pc_ld hp1, pc_alive hp1, hv1]))
      (first | refine SW.condD rfl (fun h5 => ?_) (fun h5 => ?_) | refine SW.condN rfl (fun h5 => ?_) (fun h5 => ?_) | refine SW.condNB rfl (fun h5 => ?_) (fun h5 => ?_) | refine SW.condB rfl (fun h5 => ?_) (fun h5 => ?_))
      · rw [if_pos h5]
        repeat (first | (with_reducible refine SW.seq ?_) | (with_reducible refine SW.block ?_) | (with_reducible refine SW.rowC ?_) | (with_reducible refine SW.skip ?_) | (with_reducible refine SW.exit ?_) | (with_reducible intro _) | (with_reducible refine And.intro (by omega) ?_) | (simp (config := { maxSteps := 1000000 }) (disch := (first | omega | (simp only [go_sem]; try omega))) only [go_sem, ↓GSplit_t, ↓GSplit_f, ↓GSplit_tf, ↓GSplit_ft, Nat.reduceAdd, Nat.reduceEqDiff, Nat.reduceLeDiff, Nat.reduceMul, Nat.reduceLT, reduceIte, Int.reduceToNat, bne_self_eq_false, beq_self_eq_true, w64_id, cast_succ, Bool.false_eq_true, Bool.and_true, Bool.true_and, Bool.and_false, Bool.false_and, Bool.not_not]))
        refine SW.ret ?_; (try simp only [go_sem]); (first | refine FunPost.one ?_ | refine FunPost.two ?_ | refine FunPost.three ?_); (try simp (config := { maxSteps := 1000000 }) (disch := (first | omega | (simp only [go_sem]; try omega))) only [go_sem, ↓GSplit_t, ↓GSplit_f, ↓GSplit_tf, ↓GSplit_ft, Nat.reduceAdd, Nat.reduceEqDiff, Nat.reduceLeDiff, Nat.reduceMul, Nat.reduceLT, reduceIte, Int.reduceToNat, bne_self_eq_false, beq_self_eq_true, w64_id, cast_succ, Bool.false_eq_true, Bool.and_true, Bool.true_and, Bool.and_false, Bool.false_and, Bool.not_not])
        refine GR.of ?_
        unfold VPost
        rw [if_neg (by simp), if_pos rfl]
        exact ⟨rfl, ver, zs, budget - (l - 1), by omega, hp1', hr1, htk0, hU ▸ pres_upd⟩
      rw [if_neg h5]
      have e1 : (set.length : Int) - 1 = ((set.length - 1 : Nat) : Int) := by omega
      have e2 : set.getD (set.length - 1) 0 = lastI set := rfl
      repeat (first | (with_reducible refine SW.seq ?_) | (with_reducible refine SW.block ?_) | (with_reducible refine SW.rowC ?_) | (with_reducible refine SW.skip ?_) | (with_reducible refine SW.exit ?_) | (with_reducible intro _) | (with_reducible refine And.intro (by omega) ?_) | (simp (config := { maxSteps := 1000000 }) (disch := (first | omega | (simp only [go_sem]; try omega))) only [go_sem, ↓GSplit_t, ↓GSplit_f, ↓GSplit_tf, ↓GSplit_ft, Nat.reduceAdd, Nat.reduceEqDiff, Nat.reduceLeDiff, Nat.reduceMul, Nat.reduceLT, reduceIte, Int.reduceToNat, bne_self_eq_false, beq_self_eq_true, w64_id, cast_succ, Bool.false_eq_true, Bool.and_true, Bool.true_and, Bool.and_false, Bool.false_and, Bool.not_not, pc_ld hp1, pc_alive hp1, hv1, e1, e2]))
      generalize hV : goM (visitM n k lam d) set (xsFrom (lastI set + 1) n) (l - 1) = V
      refine SW.loopE (fun E0 H0 q E' H' => ∃ (a : Int) (l' ver' : Nat) (ys : List Int), lastI set < a ∧ q = (n - a).toNat ∧ E' = aput E0 5 (I a) ∧ H' = (H.set p (sB n k lam (budget - l') budget (.nm r ver' 0 set.length))).set r ⟨ver', 2, 1, ys.map I⟩ ∧ ys.take set.length = set ∧ l' ≤ l ∧ V = goM (visitM n k lam d) set (xsFrom a n) l') (n - (lastI set + 1)).toNat ⟨lastI set + 1, l - 1, ver, zs, by omega, rfl, rfl, hU.symm, htk0, by omega, hV.symm⟩ ?_
      rintro q E' H' ⟨a, l', ver', ys, ha1, rfl, rfl, hH', hys, hl', hVa⟩
      have hpx : H'[p]? = some (sB n k lam (budget - l') budget (.nm r ver' 0 set.length)) := by rw [hH']; exact upd_p hplt hpr
      have hrx : H'[r]? = some ⟨ver', 2, 1, ys.map I⟩ := by rw [hH']; exact upd_r hrlt
      have hlx : H'.length = H.length := by rw [hH']; simp
      unfold sB at hpx
      simp (config := { maxSteps := 1000000 }) (disch := (first | omega | (simp only [go_sem]; try omega))) only [go_sem, ↓GSplit_t, ↓GSplit_f, ↓GSplit_tf, ↓GSplit_ft, Nat.reduceAdd, Nat.reduceEqDiff, Nat.reduceLeDiff, Nat.reduceMul, Nat.reduceLT, reduceIte, Int.reduceToNat, bne_self_eq_false, beq_self_eq_true, w64_id, cast_succ, Bool.false_eq_true, Bool.and_true, Bool.true_and, Bool.and_false, Bool.false_and, Bool.not_not]
      repeat (first | (with_reducible refine SW.seq ?_) | (with_reducible refine SW.block ?_) | (with_reducible refine SW.rowC ?_) | (with_reducible refine SW.skip ?_) | (with_reducible refine SW.exit ?_) | (with_reducible intro _) | (with_reducible refine And.intro (by omega) ?_) | (simp (config := { maxSteps := 1000000 }) (disch := (first | omega | (simp only [go_sem]; try omega))) only [go_sem, ↓GSplit_t, ↓GSplit_f, ↓GSplit_tf, ↓GSplit_ft, Nat.reduceAdd, Nat.reduceEqDiff, Nat.reduceLeDiff, Nat.reduceMul, Nat.reduceLT, reduceIte, Int.reduceToNat, bne_self_eq_false, beq_self_eq_true, w64_id, cast_succ, Bool.false_eq_true, Bool.and_true, Bool.true_and, Bool.and_false, Bool.false_and, Bool.not_not, pc_ld hpx, pc_alive hpx]))
      (first | refine SW.condD rfl (fun h6 => ?_) (fun h6 => ?_) | refine SW.condN rfl (fun h6 => ?_) (fun h6 => ?_) | refine SW.condNB rfl (fun h6 => ?_) (fun h6 => ?_) | refine SW.condB rfl (fun h6 => ?_) (fun h6 => ?_))
      · rw [xsFrom_cons h6, goM] at hVa
        have hyl : set.length ≤ (ys.map I).length := by rw [List.length_map]; have := congrArg List.length hys; rw [List.length_take] at this; omega
        have hyk : (ys.map I).take set.length = set.map I := by rw [← List.map_take, hys]
        have hpy := get_appB2 hpx [⟨0, 2, 1, [I a]⟩]
        have hry := get_appB2 hrx [⟨0, 2, 1, [I a]⟩]
        repeat (first | (with_reducible refine SW.seq ?_) | (with_reducible refine SW.block ?_) | (with_reducible refine SW.rowC ?_) | (with_reducible refine SW.skip ?_) | (with_reducible refine SW.exit ?_) | (with_reducible intro _) | (with_reducible refine And.intro (by omega) ?_) | (simp (config := { maxSteps := 1000000 }) (disch := (first | omega | (simp only [go_sem]; try omega))) only [go_sem, ↓GSplit_t, ↓GSplit_f, ↓GSplit_tf, ↓GSplit_ft, Nat.reduceAdd, Nat.reduceEqDiff, Nat.reduceLeDiff, Nat.reduceMul, Nat.reduceLT, reduceIte, Int.reduceToNat, bne_self_eq_false, beq_self_eq_true, w64_id, cast_succ, Bool.false_eq_true, Bool.and_true, Bool.true_and, Bool.and_false, Bool.false_and, Bool.not_not, pc_ld hpx, pc_alive hpx, hry, hyk]))
        rw [hH', updA_r hrlt]
        unfold sB
        have hp2 := get_appB2 (upd_p (X := ⟨0, tyS13, 1, [I n, I k, I lam, I ((budget - l' : Nat) : Int), I budget, .nm r ver' 0 set.length]⟩) (Y := ⟨ver' + 1, 2, 1, (set ++ [a]).map I⟩) hplt hpr) [⟨0, 2, 1, [I a]⟩]
        simp (config := { maxSteps := 1000000 }) (disch := (first | omega | (simp only [go_sem]; try omega))) only [go_sem, ↓GSplit_t, ↓GSplit_f, ↓GSplit_tf, ↓GSplit_ft, Nat.reduceAdd, Nat.reduceEqDiff, Nat.reduceLeDiff, Nat.reduceMul, Nat.reduceLT, reduceIte, Int.reduceToNat, bne_self_eq_false, beq_self_eq_true, w64_id, cast_succ, Bool.false_eq_true, Bool.and_true, Bool.true_and, Bool.and_false, Bool.false_and, Bool.not_not, pc_alive hp2]
        rw [pc_st hp2 (by simp), updA_p hplt hpr]
        repeat (first | (with_reducible refine SW.seq ?_) | (with_reducible refine SW.block ?_) | (with_reducible refine SW.rowC ?_) | (with_reducible refine SW.skip ?_) | (with_reducible refine SW.exit ?_) | (with_reducible intro _) | (with_reducible refine And.intro (by omega) ?_) | (simp (config := { maxSteps := 1000000 }) (disch := (first | omega | (simp only [go_sem]; try omega))) only [go_sem, ↓GSplit_t, ↓GSplit_f, ↓GSplit_tf, ↓GSplit_ft, Nat.reduceAdd, Nat.reduceEqDiff, Nat.reduceLeDiff, Nat.reduceMul, Nat.reduceLT, reduceIte, Int.reduceToNat, bne_self_eq_false, beq_self_eq_true, w64_id, cast_succ, Bool.false_eq_true, Bool.and_true, Bool.true_and, Bool.and_false, Bool.false_and, Bool.not_not]))
        have hp3 := get_appB2 (upd_p (X := sB n k lam (budget - l') budget (.nm r (ver' + 1) 0 (set ++ [a]).length)) (Y := ⟨ver' + 1, 2, 1, (set ++ [a]).map I⟩) hplt hpr) [⟨0, 2, 1, [I a]⟩]
        have hr3 := get_appB2 (upd_r (p := p) (X := sB n k lam (budget - l') budget (.nm r (ver' + 1) 0 (set ++ [a]).length)) (Y := ⟨ver' + 1, 2, 1, (set ++ [a]).map I⟩) hrlt) [⟨0, 2, 1, [I a]⟩]
        have hi := ih _ p r (ver' + 1) (set ++ [a]) (set ++ [a]) l' hp3 hr3 (by rw [List.take_length]) hpr (by simp) (asc_snoc ha (fun y hy => by have := asc_last ha y hy; omega) (by omega) (by omega)) (by rw [lastI_snoc]; omega) (by omega)
        rw [show (set ++ [a]).length = set.length + 1 by simp] at hi
        unfold sB at hi
        refine hi.mono ?_
        rintro r2 H2 hpost
        generalize hW : visitM n k lam d (set ++ [a]) l' = W at *
        have hWl := visitM_left n k lam d (set ++ [a]) l'
        have hWc := visitM_code n k lam d (set ++ [a]) l'
        rw [hW] at hWl hWc
        by_cases hc0 : W.1 = 0
        · unfold VPost at hpost
          rw [if_pos hc0] at hpost
          rw [if_pos hc0] at hVa
          obtain ⟨rfl, v4, zs4, rfl, hz4⟩ := hpost
          rw [updA_p hplt hpr, updA_r hrlt, show (set ++ [a]).length = set.length + 1 by simp]
          rw [show (set ++ [a]).length = set.length + 1 by simp] at hz4
          unfold sB
          repeat (first | (with_reducible refine SW.seq ?_) | (with_reducible refine SW.block ?_) | (with_reducible refine SW.rowC ?_) | (with_reducible refine SW.skip ?_) | (with_reducible refine SW.exit ?_) | (with_reducible intro _) | (with_reducible refine And.intro (by omega) ?_) | (simp (config := { maxSteps := 1000000 }) (disch := (first | omega | (simp only [go_sem]; try omega))) only [go_sem, ↓GSplit_t, ↓GSplit_f, ↓GSplit_tf, ↓GSplit_ft, Nat.reduceAdd, Nat.reduceEqDiff, Nat.reduceLeDiff, Nat.reduceMul, Nat.reduceLT, reduceIte, Int.reduceToNat, bne_self_eq_false, beq_self_eq_true, w64_id, cast_succ, Bool.false_eq_true, Bool.and_true, Bool.true_and, Bool.and_false, Bool.false_and, Bool.not_not]))
          refine SW.condF rfl ?_
          have hp4 := get_appB2 (upd_p (X := ⟨0, tyS13, 1, [I n, I k, I lam, I ((budget - W.2.2 : Nat) : Int), I budget, .nm r v4 0 (set.length + 1)]⟩) (Y := ⟨v4, 2, 1, zs4.map I⟩) hplt hpr) [⟨0, 2, 1, [I a]⟩]
          have hr4 := get_appB2 (upd_r (p := p) (X := ⟨0, tyS13, 1, [I n, I k, I lam, I ((budget - W.2.2 : Nat) : Int), I budget, .nm r v4 0 (set.length + 1)]⟩) (Y := ⟨v4, 2, 1, zs4.map I⟩) hrlt) [⟨0, 2, 1, [I a]⟩]
          have e3 : ((set.length + 1 : Nat) : Int) - 1 = (set.length : Int) := by omega
          have hv4 := view_nmL (l := set.length + 1) hr4
          repeat (first | (with_reducible refine SW.seq ?_) | (with_reducible refine SW.block ?_) | (with_reducible refine SW.rowC ?_) | (with_reducible refine SW.skip ?_) | (with_reducible refine SW.exit ?_) | (with_reducible intro _) | (with_reducible refine And.intro (by omega) ?_) | (simp (config := { maxSteps := 1000000 }) (disch := (first | omega | (simp only [go_sem]; try omega))) only [go_sem, ↓GSplit_t, ↓GSplit_f, ↓GSplit_tf, ↓GSplit_ft, Nat.reduceAdd, Nat.reduceEqDiff, Nat.reduceLeDiff, Nat.reduceMul, Nat.reduceLT, reduceIte, Int.reduceToNat, bne_self_eq_false, beq_self_eq_true, w64_id, cast_succ, Bool.false_eq_true, Bool.and_true, Bool.true_and, Bool.and_false, Bool.false_and, Bool.not_not, pc_ld hp4, pc_alive hp4, hv4, e3, Option.map_some, Option.map_none, SlcG_nm (by rw [hr4]; rfl)]))
          rw [pc_st hp4 (by simp), updA_p hplt hpr]
          repeat (first | (with_reducible refine SW.seq ?_) | (with_reducible refine SW.block ?_) | (with_reducible refine SW.rowC ?_) | (with_reducible refine SW.skip ?_) | (with_reducible refine SW.exit ?_) | (with_reducible intro _) | (with_reducible refine And.intro (by omega) ?_) | (simp (config := { maxSteps := 1000000 }) (disch := (first | omega | (simp only [go_sem]; try omega))) only [go_sem, ↓GSplit_t, ↓GSplit_f, ↓GSplit_tf, ↓GSplit_ft, Nat.reduceAdd, Nat.reduceEqDiff, Nat.reduceLeDiff, Nat.reduceMul, Nat.reduceLT, reduceIte, Int.reduceToNat, bne_self_eq_false, beq_self_eq_true, w64_id, cast_succ, Bool.false_eq_true, Bool.and_true, Bool.true_and, Bool.and_false, Bool.false_and, Bool.not_not]))
          refine SLoop.nextT 0 (n - (a + 1)).toNat (hBU (budget - W.2.2) v4 set.length zs4) (by simp) (by omega) (by simp) ?_ ?_ ⟨a + 1, W.2.2, v4, zs4, by omega, rfl, ?_, ?_, ?_, by omega, hVa⟩
          · (simp only [go_sem, Nat.reduceAdd, Nat.reduceEqDiff, reduceIte, and_self, and_true, true_and, implies_true, Bel_lit, Bel_I, Bel_Bv, Bel_nil, Bel_junk, Bel_nm, Bel_pc, Bel_il, Bel_agg, Bel_tup, Bel_fn, Bel_el, all_mapI, all_mapB, all_mapS, all_nilB, all_consB, EB_nil, EB_cons, BB_nil, BB_cons, Bel_ilS, Bel_ilSS, Bel_ilB, List.getElem?_cons_zero, List.take_succ_cons, List.take_zero, keep_nil, keep_cons, and_true, true_and, List.length_set]; try omega)
          · (simp only [go_sem, Nat.reduceAdd, Nat.reduceEqDiff, reduceIte, and_self, and_true, true_and, implies_true, Bel_lit, Bel_I, Bel_Bv, Bel_nil, Bel_junk, Bel_nm, Bel_pc, Bel_il, Bel_agg, Bel_tup, Bel_fn, Bel_el, all_mapI, all_mapB, all_mapS, all_nilB, all_consB, EB_nil, EB_cons, BB_nil, BB_cons, Bel_ilS, Bel_ilSS, Bel_ilB, List.getElem?_cons_zero, List.take_succ_cons, List.take_zero, keep_nil, keep_cons, and_true, true_and]; try omega)
          · simp [go_sem]
          · simp [sB]
          · have := congrArg (List.take set.length) hz4
            rw [List.take_take, Nat.min_eq_left (by omega)] at this
            rw [this]; simp
        · have hrv : r2 = Bv true := by
            unfold VPost at hpost
            rw [if_neg hc0] at hpost
            split at hpost <;> exact hpost.1
          subst hrv
          repeat (first | (with_reducible refine SW.seq ?_) | (with_reducible refine SW.block ?_) | (with_reducible refine SW.rowC ?_) | (with_reducible refine SW.skip ?_) | (with_reducible refine SW.exit ?_) | (with_reducible intro _) | (with_reducible refine And.intro (by omega) ?_) | (simp (config := { maxSteps := 1000000 }) (disch := (first | omega | (simp only [go_sem]; try omega))) only [go_sem, ↓GSplit_t, ↓GSplit_f, ↓GSplit_tf, ↓GSplit_ft, Nat.reduceAdd, Nat.reduceEqDiff, Nat.reduceLeDiff, Nat.reduceMul, Nat.reduceLT, reduceIte, Int.reduceToNat, bne_self_eq_false, beq_self_eq_true, w64_id, cast_succ, Bool.false_eq_true, Bool.and_true, Bool.true_and, Bool.and_false, Bool.false_and, Bool.not_not]))
          refine SW.condT rfl ?_
          repeat (first | (with_reducible refine SW.seq ?_) | (with_reducible refine SW.block ?_) | (with_reducible refine SW.rowC ?_) | (with_reducible refine SW.skip ?_) | (with_reducible refine SW.exit ?_) | (with_reducible intro _) | (with_reducible refine And.intro (by omega) ?_) | (simp (config := { maxSteps := 1000000 }) (disch := (first | omega | (simp only [go_sem]; try omega))) only [go_sem, ↓GSplit_t, ↓GSplit_f, ↓GSplit_tf, ↓GSplit_ft, Nat.reduceAdd, Nat.reduceEqDiff, Nat.reduceLeDiff, Nat.reduceMul, Nat.reduceLT, reduceIte, Int.reduceToNat, bne_self_eq_false, beq_self_eq_true, w64_id, cast_succ, Bool.false_eq_true, Bool.and_true, Bool.true_and, Bool.and_false, Bool.false_and, Bool.not_not]))
          refine SW.ret ?_; (try simp only [go_sem]); (first | refine FunPost.one ?_ | refine FunPost.two ?_ | refine FunPost.three ?_); (try simp (config := { maxSteps := 1000000 }) (disch := (first | omega | (simp only [go_sem]; try omega))) only [go_sem, ↓GSplit_t, ↓GSplit_f, ↓GSplit_tf, ↓GSplit_ft, Nat.reduceAdd, Nat.reduceEqDiff, Nat.reduceLeDiff, Nat.reduceMul, Nat.reduceLT, reduceIte, Int.reduceToNat, bne_self_eq_false, beq_self_eq_true, w64_id, cast_succ, Bool.false_eq_true, Bool.and_true, Bool.true_and, Bool.and_false, Bool.false_and, Bool.not_not])
          refine GR.of ?_
          rw [if_neg hc0] at hVa
          rw [hVa]
          unfold VPost at hpost ⊢
          rw [if_neg hc0] at hpost ⊢
          have hps := (pres_upd (p := p) (r := r) (H := H) (X := ⟨0, tyS13, 1, [I n, I k, I lam, I ((budget - l' : Nat) : Int), I budget, .nm r (ver' + 1) 0 (set.length + 1)]⟩) (Y := ⟨ver' + 1, 2, 1, (set ++ [a]).map I⟩)).trans (pres_app (e := [⟨0, 2, 1, [I a]⟩]))
          split at hpost
          · rename_i hc1
            rw [if_pos hc1]
            obtain ⟨q1, v5, zs5, n5, q2, q3, q4, q5, q6⟩ := hpost
            exact ⟨q1, v5, zs5, n5, q2, q3, q4, q5, hps.trans q6⟩
          · rename_i hc1
            rw [if_neg hc1]
            exact ⟨hpost.1, hpost.2.1, hps.trans hpost.2.2⟩
      · rw [xsFrom_nil (by omega), goM] at hVa
        repeat (first | (with_reducible refine SW.seq ?_) | (with_reducible refine SW.block ?_) | (with_reducible refine SW.rowC ?_) | (with_reducible refine SW.skip ?_) | (with_reducible refine SW.exit ?_) | (with_reducible intro _) | (with_reducible refine And.intro (by omega) ?_) | (simp (config := { maxSteps := 1000000 }) (disch := (first | omega | (simp only [go_sem]; try omega))) only [go_sem, ↓GSplit_t, ↓GSplit_f, ↓GSplit_tf, ↓GSplit_ft, Nat.reduceAdd, Nat.reduceEqDiff, Nat.reduceLeDiff, Nat.reduceMul, Nat.reduceLT, reduceIte, Int.reduceToNat, bne_self_eq_false, beq_self_eq_true, w64_id, cast_succ, Bool.false_eq_true, Bool.and_true, Bool.true_and, Bool.and_false, Bool.false_and, Bool.not_not]))
        refine SW.ret ?_; (try simp only [go_sem]); (first | refine FunPost.one ?_ | refine FunPost.two ?_ | refine FunPost.three ?_); (try simp (config := { maxSteps := 1000000 }) (disch := (first | omega | (simp only [go_sem]; try omega))) only [go_sem, ↓GSplit_t, ↓GSplit_f, ↓GSplit_tf, ↓GSplit_ft, Nat.reduceAdd, Nat.reduceEqDiff, Nat.reduceLeDiff, Nat.reduceMul, Nat.reduceLT, reduceIte, Int.reduceToNat, bne_self_eq_false, beq_self_eq_true, w64_id, cast_succ, Bool.false_eq_true, Bool.and_true, Bool.true_and, Bool.and_false, Bool.false_and, Bool.not_not])
        refine GR.of ?_
        rw [hVa]
        unfold VPost
        rw [if_pos rfl]
        exact ⟨rfl, ver', ys, hH', hys⟩

theorem l00Own_ok (H : List Blk) (a : AV) (xs : List Int) (ha : RdS H a xs) (hl : xs.length ≤ 1073741824) : ACalls Try.prog f_spec_l00Own [a] H (fun r H' => r = .nm H.length 1 0 xs.length ∧ H' = H ++ [⟨1, 2, 1, xs.map I⟩]) := by
  have h2 := aview_append ha [⟨0, 2, 1, []⟩]
  refine ACalls.introB s_spec_l00Own (by simp) ?_; intro hB hA; unfold c_spec_l00Own; simp (config := { maxSteps := 1000000 }) (disch := (first | omega | (simp only [go_sem]; try omega))) only [go_sem, ↓GSplit_t, ↓GSplit_f, ↓GSplit_tf, ↓GSplit_ft, Nat.reduceAdd, Nat.reduceEqDiff, Nat.reduceLeDiff, Nat.reduceMul, Nat.reduceLT, reduceIte, Int.reduceToNat, bne_self_eq_false, beq_self_eq_true, w64_id, cast_succ, Bool.false_eq_true, Bool.and_true, Bool.true_and, Bool.and_false, Bool.false_and, Bool.not_not]
  repeat (first | (with_reducible refine SW.seq ?_) | (with_reducible refine SW.block ?_) | (with_reducible refine SW.rowC ?_) | (with_reducible refine SW.skip ?_) | (with_reducible refine SW.exit ?_) | (with_reducible intro _) | (with_reducible refine And.intro (by omega) ?_) | (simp (config := { maxSteps := 1000000 }) (disch := (first | omega | (simp only [go_sem]; try omega))) only [go_sem, ↓GSplit_t, ↓GSplit_f, ↓GSplit_tf, ↓GSplit_ft, Nat.reduceAdd, Nat.reduceEqDiff, Nat.reduceLeDiff, Nat.reduceMul, Nat.reduceLT, reduceIte, Int.reduceToNat, bne_self_eq_false, beq_self_eq_true, w64_id, cast_succ, Bool.false_eq_true, Bool.and_true, Bool.true_and, Bool.and_false, Bool.false_and, Bool.not_not, ha, h2]))
  refine SW.ret ?_; (try simp only [go_sem]); (first | refine FunPost.one ?_ | refine FunPost.two ?_ | refine FunPost.three ?_); (try simp (config := { maxSteps := 1000000 }) (disch := (first | omega | (simp only [go_sem]; try omega))) only [go_sem, ↓GSplit_t, ↓GSplit_f, ↓GSplit_tf, ↓GSplit_ft, Nat.reduceAdd, Nat.reduceEqDiff, Nat.reduceLeDiff, Nat.reduceMul, Nat.reduceLT, reduceIte, Int.reduceToNat, bne_self_eq_false, beq_self_eq_true, w64_id, cast_succ, Bool.false_eq_true, Bool.and_true, Bool.true_and, Bool.and_false, Bool.false_and, Bool.not_not])
  exact GR.of ⟨rfl, rfl⟩

theorem GR.frozH {H0 H1 : List Blk} {R : AV → List Blk → Prop} {r r' : AV} (hp : ∃ ext, H1 = H0 ++ ext) (hf : Froz H1 H0.length r r') (h : R r' H0) : GR H0 R r H1 := by
  obtain ⟨ext, rfl⟩ := hp
  exact GR.froz hf h

theorem goM_len {v : List Int → Nat → Nat × List Int × Nat} {set : List Int} {k : Int} (hv : ∀ s l, (v s l).1 = 1 → ((v s l).2.1.length : Int) = k) : ∀ xs l, (goM v set xs l).1 = 1 → ((goM v set xs l).2.1.length : Int) = k
  | [], l => by simp [goM]
  | x :: xs, l => by
    rw [goM]; split
    · exact goM_len hv xs _
    · exact hv _ _
theorem visitM_len (n : Nat) (k lam : Int) : ∀ (d : Nat) (s : List Int) (l : Nat), (visitM n k lam d s l).1 = 1 → ((visitM n k lam d s l).2.1.length : Int) = k
  | 0, s, l => by simp [visitM]
  | d + 1, s, l => by
    rw [visitM]
    split
    · simp
    · split
      · simp
      · split
        · intro _; assumption
        · exact goM_len (visitM_len n k lam d) _ _

theorem l13First_fn (N : Nat) (k lam : Int) (b : Nat) (hn : 2 ≤ N ∧ N ≤ 32) (hk : k ≤ 1000) (hlam : 1 ≤ lam) (hb : b ≤ 20000) (c : Nat) (s : List Int) (l : Nat) (hv : visitM N k lam N [0] b = (c, s, l)) :
    PFn Try.prog f_spec_l13First [I N, I k, I lam, I b] (if c = 1 then .tup [ilS s, I 0] else if c = 2 then .tup [ilS [], I 5] else .tup [ilS [], I 3]) := by
  have hvc := visitM_code N k lam N [0] b
  have hvl := visitM_left N k lam N [0] b
  have hvn := visitM_len N k lam N [0] b
  rw [hv] at hvc hvl hvn
  simp only at hvc hvl hvn
  intro H; refine ACalls.introB s_spec_l13First (by simp) ?_; intro hB hA; unfold c_spec_l13First; simp (config := { maxSteps := 1000000 }) (disch := (first | omega | (simp only [go_sem]; try omega))) only [go_sem, ↓GSplit_t, ↓GSplit_f, ↓GSplit_tf, ↓GSplit_ft, Nat.reduceAdd, Nat.reduceEqDiff, Nat.reduceLeDiff, Nat.reduceMul, Nat.reduceLT, reduceIte, Int.reduceToNat, bne_self_eq_false, beq_self_eq_true, w64_id, cast_succ, Bool.false_eq_true, Bool.and_true, Bool.true_and, Bool.and_false, Bool.false_and, Bool.not_not]
  repeat (first | (with_reducible refine SW.seq ?_) | (with_reducible refine SW.block ?_) | (with_reducible refine SW.rowC ?_) | (with_reducible refine SW.skip ?_) | (with_reducible refine SW.exit ?_) | (with_reducible intro _) | (with_reducible refine And.intro (by omega) ?_) | (simp (config := { maxSteps := 1000000 }) (disch := (first | omega | (simp only [go_sem]; try omega))) only [go_sem, ↓GSplit_t, ↓GSplit_f, ↓GSplit_tf, ↓GSplit_ft, Nat.reduceAdd, Nat.reduceEqDiff, Nat.reduceLeDiff, Nat.reduceMul, Nat.reduceLT, reduceIte, Int.reduceToNat, bne_self_eq_false, beq_self_eq_true, w64_id, cast_succ, Bool.false_eq_true, Bool.and_true, Bool.true_and, Bool.and_false, Bool.false_and, Bool.not_not]))
  have hvo := visit_ok N k lam hn hlam b hb N (H ++ [⟨0, 2, 1, [0].map I⟩, sB N k lam 0 b (.nm H.length 0 0 1)]) (H.length + 1) H.length 0 [0] [0] b (by simp) (by simp) (by simp) (by omega) (by simp) (by simp [asc]; omega) (by simp [lastI]) (Nat.le_refl _)
  rw [hv] at hvo
  refine hvo.mono ?_
  rintro r1 H1 hpost
  unfold VPost at hpost
  simp only at hpost
  by_cases hc0 : c = 0
  · subst hc0
    rw [if_pos rfl] at hpost
    obtain ⟨rfl, v4, zs4, rfl, hz4⟩ := hpost
    simp only [hset, hset0, List.set_cons_zero, List.set_cons_succ]
    unfold sB
    repeat (first | (with_reducible refine SW.seq ?_) | (with_reducible refine SW.block ?_) | (with_reducible refine SW.rowC ?_) | (with_reducible refine SW.skip ?_) | (with_reducible refine SW.exit ?_) | (with_reducible intro _) | (with_reducible refine And.intro (by omega) ?_) | (simp (config := { maxSteps := 1000000 }) (disch := (first | omega | (simp only [go_sem]; try omega))) only [go_sem, ↓GSplit_t, ↓GSplit_f, ↓GSplit_tf, ↓GSplit_ft, Nat.reduceAdd, Nat.reduceEqDiff, Nat.reduceLeDiff, Nat.reduceMul, Nat.reduceLT, reduceIte, Int.reduceToNat, bne_self_eq_false, beq_self_eq_true, w64_id, cast_succ, Bool.false_eq_true, Bool.and_true, Bool.true_and, Bool.and_false, Bool.false_and, Bool.not_not]))
    (first | refine SW.condD rfl (fun h => ?_) (fun h => ?_) | refine SW.condN rfl (fun h => ?_) (fun h => ?_) | refine SW.condNB rfl (fun h => ?_) (fun h => ?_) | refine SW.condB rfl (fun h => ?_) (fun h => ?_))
    · exfalso; omega
    repeat (first | (with_reducible refine SW.seq ?_) | (with_reducible refine SW.block ?_) | (with_reducible refine SW.rowC ?_) | (with_reducible refine SW.skip ?_) | (with_reducible refine SW.exit ?_) | (with_reducible intro _) | (with_reducible refine And.intro (by omega) ?_) | (simp (config := { maxSteps := 1000000 }) (disch := (first | omega | (simp only [go_sem]; try omega))) only [go_sem, ↓GSplit_t, ↓GSplit_f, ↓GSplit_tf, ↓GSplit_ft, Nat.reduceAdd, Nat.reduceEqDiff, Nat.reduceLeDiff, Nat.reduceMul, Nat.reduceLT, reduceIte, Int.reduceToNat, bne_self_eq_false, beq_self_eq_true, w64_id, cast_succ, Bool.false_eq_true, Bool.and_true, Bool.true_and, Bool.and_false, Bool.false_and, Bool.not_not]))
    refine SW.condT rfl ?_
    repeat (first | (with_reducible refine SW.seq ?_) | (with_reducible refine SW.block ?_) | (with_reducible refine SW.rowC ?_) | (with_reducible refine SW.skip ?_) | (with_reducible refine SW.exit ?_) | (with_reducible intro _) | (with_reducible refine And.intro (by omega) ?_) | (simp (config := { maxSteps := 1000000 }) (disch := (first | omega | (simp only [go_sem]; try omega))) only [go_sem, ↓GSplit_t, ↓GSplit_f, ↓GSplit_tf, ↓GSplit_ft, Nat.reduceAdd, Nat.reduceEqDiff, Nat.reduceLeDiff, Nat.reduceMul, Nat.reduceLT, reduceIte, Int.reduceToNat, bne_self_eq_false, beq_self_eq_true, w64_id, cast_succ, Bool.false_eq_true, Bool.and_true, Bool.true_and, Bool.and_false, Bool.false_and, Bool.not_not]))
    refine SW.ret ?_; (try simp only [go_sem]); (first | refine FunPost.one ?_ | refine FunPost.two ?_ | refine FunPost.three ?_); (try simp (config := { maxSteps := 1000000 }) (disch := (first | omega | (simp only [go_sem]; try omega))) only [go_sem, ↓GSplit_t, ↓GSplit_f, ↓GSplit_tf, ↓GSplit_ft, Nat.reduceAdd, Nat.reduceEqDiff, Nat.reduceLeDiff, Nat.reduceMul, Nat.reduceLT, reduceIte, Int.reduceToNat, bne_self_eq_false, beq_self_eq_true, w64_id, cast_succ, Bool.false_eq_true, Bool.and_true, Bool.true_and, Bool.and_false, Bool.false_and, Bool.not_not])
    exact GR.froz (froz_tup2 .nil (froz_I' _)) ⟨rfl, rfl⟩
  rw [if_neg hc0] at hpost
  by_cases hc1 : c = 1
  · subst hc1
    rw [if_pos rfl] at hpost
    obtain ⟨rfl, v4, zs4, nodes, hno, hp1, hr1, hz4, hps⟩ := hpost
    have hpre : ∃ ext, H1 = H ++ ext := prefix_of (by have := hps.1; simp at this; omega) (fun j hj => by rw [hps.2 j (by omega) (by omega) (by simp; omega), List.getElem?_append_left hj])
    have hs := hvn rfl
    unfold sB at hp1
    repeat (first | (with_reducible refine SW.seq ?_) | (with_reducible refine SW.block ?_) | (with_reducible refine SW.rowC ?_) | (with_reducible refine SW.skip ?_) | (with_reducible refine SW.exit ?_) | (with_reducible intro _) | (with_reducible refine And.intro (by omega) ?_) | (simp (config := { maxSteps := 1000000 }) (disch := (first | omega | (simp only [go_sem]; try omega))) only [go_sem, ↓GSplit_t, ↓GSplit_f, ↓GSplit_tf, ↓GSplit_ft, Nat.reduceAdd, Nat.reduceEqDiff, Nat.reduceLeDiff, Nat.reduceMul, Nat.reduceLT, reduceIte, Int.reduceToNat, bne_self_eq_false, beq_self_eq_true, w64_id, cast_succ, Bool.false_eq_true, Bool.and_true, Bool.true_and, Bool.and_false, Bool.false_and, Bool.not_not, pc_ld hp1, pc_alive hp1]))
    (first | refine SW.condD rfl (fun h => ?_) (fun h => ?_) | refine SW.condN rfl (fun h => ?_) (fun h => ?_) | refine SW.condNB rfl (fun h => ?_) (fun h => ?_) | refine SW.condB rfl (fun h => ?_) (fun h => ?_))
    · exfalso; omega
    repeat (first | (with_reducible refine SW.seq ?_) | (with_reducible refine SW.block ?_) | (with_reducible refine SW.rowC ?_) | (with_reducible refine SW.skip ?_) | (with_reducible refine SW.exit ?_) | (with_reducible intro _) | (with_reducible refine And.intro (by omega) ?_) | (simp (config := { maxSteps := 1000000 }) (disch := (first | omega | (simp only [go_sem]; try omega))) only [go_sem, ↓GSplit_t, ↓GSplit_f, ↓GSplit_tf, ↓GSplit_ft, Nat.reduceAdd, Nat.reduceEqDiff, Nat.reduceLeDiff, Nat.reduceMul, Nat.reduceLT, reduceIte, Int.reduceToNat, bne_self_eq_false, beq_self_eq_true, w64_id, cast_succ, Bool.false_eq_true, Bool.and_true, Bool.true_and, Bool.and_false, Bool.false_and, Bool.not_not]))
    refine SW.condF rfl ?_
    repeat (first | (with_reducible refine SW.seq ?_) | (with_reducible refine SW.block ?_) | (with_reducible refine SW.rowC ?_) | (with_reducible refine SW.skip ?_) | (with_reducible refine SW.exit ?_) | (with_reducible intro _) | (with_reducible refine And.intro (by omega) ?_) | (simp (config := { maxSteps := 1000000 }) (disch := (first | omega | (simp only [go_sem]; try omega))) only [go_sem, ↓GSplit_t, ↓GSplit_f, ↓GSplit_tf, ↓GSplit_ft, Nat.reduceAdd, Nat.reduceEqDiff, Nat.reduceLeDiff, Nat.reduceMul, Nat.reduceLT, reduceIte, Int.reduceToNat, bne_self_eq_false, beq_self_eq_true, w64_id, cast_succ, Bool.false_eq_true, Bool.and_true, Bool.true_and, Bool.and_false, Bool.false_and, Bool.not_not, pc_ld hp1, pc_alive hp1]))
    have hvw : RdS H1 (.nm H.length v4 0 s.length) s := by
      have := view_nmL (l := s.length) hr1
      rw [← List.map_take, hz4] at this
      exact this
    refine (l00Own_ok _ _ s hvw (by omega)).mono ?_
    rintro r2 H2 ⟨rfl, rfl⟩
    repeat (first | (with_reducible refine SW.seq ?_) | (with_reducible refine SW.block ?_) | (with_reducible refine SW.rowC ?_) | (with_reducible refine SW.skip ?_) | (with_reducible refine SW.exit ?_) | (with_reducible intro _) | (with_reducible refine And.intro (by omega) ?_) | (simp (config := { maxSteps := 1000000 }) (disch := (first | omega | (simp only [go_sem]; try omega))) only [go_sem, ↓GSplit_t, ↓GSplit_f, ↓GSplit_tf, ↓GSplit_ft, Nat.reduceAdd, Nat.reduceEqDiff, Nat.reduceLeDiff, Nat.reduceMul, Nat.reduceLT, reduceIte, Int.reduceToNat, bne_self_eq_false, beq_self_eq_true, w64_id, cast_succ, Bool.false_eq_true, Bool.and_true, Bool.true_and, Bool.and_false, Bool.false_and, Bool.not_not]))
    refine SW.ret ?_; (try simp only [go_sem]); (first | refine FunPost.one ?_ | refine FunPost.two ?_ | refine FunPost.three ?_); (try simp (config := { maxSteps := 1000000 }) (disch := (first | omega | (simp only [go_sem]; try omega))) only [go_sem, ↓GSplit_t, ↓GSplit_f, ↓GSplit_tf, ↓GSplit_ft, Nat.reduceAdd, Nat.reduceEqDiff, Nat.reduceLeDiff, Nat.reduceMul, Nat.reduceLT, reduceIte, Int.reduceToNat, bne_self_eq_false, beq_self_eq_true, w64_id, cast_succ, Bool.false_eq_true, Bool.and_true, Bool.true_and, Bool.and_false, Bool.false_and, Bool.not_not])
    obtain ⟨ext, he⟩ := hpre
    have hge : H.length ≤ H1.length := by rw [he]; simp
    refine GR.frozH ⟨ext ++ [⟨1, 2, 1, s.map I⟩], by rw [he, List.append_assoc]⟩ (froz_tup2 (froz_rowI (ver := 1) (ty := 2) hge (by simp)) (froz_I' _)) ⟨rfl, rfl⟩
  · have hc2 : c = 2 := by omega
    subst hc2
    rw [if_neg (by omega)] at hpost
    obtain ⟨rfl, ⟨v, hp1⟩, hps⟩ := hpost
    have hpre : ∃ ext, H1 = H ++ ext := prefix_of (by have := hps.1; simp at this; omega) (fun j hj => by rw [hps.2 j (by omega) (by omega) (by simp; omega), List.getElem?_append_left hj])
    unfold sB at hp1
    repeat (first | (with_reducible refine SW.seq ?_) | (with_reducible refine SW.block ?_) | (with_reducible refine SW.rowC ?_) | (with_reducible refine SW.skip ?_) | (with_reducible refine SW.exit ?_) | (with_reducible intro _) | (with_reducible refine And.intro (by omega) ?_) | (simp (config := { maxSteps := 1000000 }) (disch := (first | omega | (simp only [go_sem]; try omega))) only [go_sem, ↓GSplit_t, ↓GSplit_f, ↓GSplit_tf, ↓GSplit_ft, Nat.reduceAdd, Nat.reduceEqDiff, Nat.reduceLeDiff, Nat.reduceMul, Nat.reduceLT, reduceIte, Int.reduceToNat, bne_self_eq_false, beq_self_eq_true, w64_id, cast_succ, Bool.false_eq_true, Bool.and_true, Bool.true_and, Bool.and_false, Bool.false_and, Bool.not_not, pc_ld hp1, pc_alive hp1]))
    (first | refine SW.condD rfl (fun h => ?_) (fun h => ?_) | refine SW.condN rfl (fun h => ?_) (fun h => ?_) | refine SW.condNB rfl (fun h => ?_) (fun h => ?_) | refine SW.condB rfl (fun h => ?_) (fun h => ?_))
    · repeat (first | (with_reducible refine SW.seq ?_) | (with_reducible refine SW.block ?_) | (with_reducible refine SW.rowC ?_) | (with_reducible refine SW.skip ?_) | (with_reducible refine SW.exit ?_) | (with_reducible intro _) | (with_reducible refine And.intro (by omega) ?_) | (simp (config := { maxSteps := 1000000 }) (disch := (first | omega | (simp only [go_sem]; try omega))) only [go_sem, ↓GSplit_t, ↓GSplit_f, ↓GSplit_tf, ↓GSplit_ft, Nat.reduceAdd, Nat.reduceEqDiff, Nat.reduceLeDiff, Nat.reduceMul, Nat.reduceLT, reduceIte, Int.reduceToNat, bne_self_eq_false, beq_self_eq_true, w64_id, cast_succ, Bool.false_eq_true, Bool.and_true, Bool.true_and, Bool.and_false, Bool.false_and, Bool.not_not]))
      refine SW.ret ?_; (try simp only [go_sem]); (first | refine FunPost.one ?_ | refine FunPost.two ?_ | refine FunPost.three ?_); (try simp (config := { maxSteps := 1000000 }) (disch := (first | omega | (simp only [go_sem]; try omega))) only [go_sem, ↓GSplit_t, ↓GSplit_f, ↓GSplit_tf, ↓GSplit_ft, Nat.reduceAdd, Nat.reduceEqDiff, Nat.reduceLeDiff, Nat.reduceMul, Nat.reduceLT, reduceIte, Int.reduceToNat, bne_self_eq_false, beq_self_eq_true, w64_id, cast_succ, Bool.false_eq_true, Bool.and_true, Bool.true_and, Bool.and_false, Bool.false_and, Bool.not_not])
      exact GR.frozH hpre (froz_tup2 .nil (froz_I' _)) ⟨rfl, rfl⟩
    · exfalso; omega

def firstAV (r : List Int × Int) : AV := .tup [ilS r.1, I r.2]
theorem nilP {H : List Blk} {code : Int} : GR H (fun r H' => r = firstAV ([], code) ∧ H' = H) (.tup [nilS, I code]) H := GR.froz0 (froz_tup2 .nil (froz_I' _)) ⟨rfl, rfl⟩

theorem specFirst_fn (n k lam b : Int) : PFn Try.prog f_spec_FirstDifferenceSet [I n, I k, I lam, I b] (firstAV (firstV n k lam b)) := by
  intro H
  cases h1 : (decide (2 ≤ n) && decide (n ≤ 32))
  · rw [firstV, rangeOk, h1]
    refine ACalls.introB s_spec_FirstDifferenceSet (by simp) ?_; intro hB hA; unfold c_spec_FirstDifferenceSet; simp (config := { maxSteps := 1000000 }) (disch := (first | omega | (simp only [go_sem]; try omega))) only [go_sem, ↓GSplit_t, ↓GSplit_f, ↓GSplit_tf, ↓GSplit_ft, Nat.reduceAdd, Nat.reduceEqDiff, Nat.reduceLeDiff, Nat.reduceMul, Nat.reduceLT, reduceIte, Int.reduceToNat, bne_self_eq_false, beq_self_eq_true, w64_id, cast_succ, Bool.false_eq_true, Bool.and_true, Bool.true_and, Bool.and_false, Bool.false_and, Bool.not_not]
    repeat (first | (with_reducible refine SW.seq ?_) | (with_reducible refine SW.block ?_) | (with_reducible refine SW.rowC ?_) | (with_reducible refine SW.skip ?_) | (with_reducible refine SW.exit ?_) | (with_reducible refine PFn.use (l00In_fn _ _ _) ?_) | (with_reducible refine PFn.useq (l00In_fn _ _ _) ?_) | (with_reducible intro _) | (with_reducible refine And.intro (by omega) ?_) | (simp (config := { maxSteps := 1000000 }) (disch := (first | omega | (simp only [go_sem]; try omega))) only [go_sem, ↓GSplit_t, ↓GSplit_f, ↓GSplit_tf, ↓GSplit_ft, Nat.reduceAdd, Nat.reduceEqDiff, Nat.reduceLeDiff, Nat.reduceMul, Nat.reduceLT, reduceIte, Int.reduceToNat, bne_self_eq_false, beq_self_eq_true, w64_id, cast_succ, Bool.false_eq_true, Bool.and_true, Bool.true_and, Bool.and_false, Bool.false_and, Bool.not_not, h1]))
    refine SW.condT rfl ?_
    repeat (first | (with_reducible refine SW.seq ?_) | (with_reducible refine SW.block ?_) | (with_reducible refine SW.rowC ?_) | (with_reducible refine SW.skip ?_) | (with_reducible refine SW.exit ?_) | (with_reducible intro _) | (with_reducible refine And.intro (by omega) ?_) | (simp (config := { maxSteps := 1000000 }) (disch := (first | omega | (simp only [go_sem]; try omega))) only [go_sem, ↓GSplit_t, ↓GSplit_f, ↓GSplit_tf, ↓GSplit_ft, Nat.reduceAdd, Nat.reduceEqDiff, Nat.reduceLeDiff, Nat.reduceMul, Nat.reduceLT, reduceIte, Int.reduceToNat, bne_self_eq_false, beq_self_eq_true, w64_id, cast_succ, Bool.false_eq_true, Bool.and_true, Bool.true_and, Bool.and_false, Bool.false_and, Bool.not_not]))
    refine SW.ret ?_; (try simp only [go_sem]); (first | refine FunPost.one ?_ | refine FunPost.two ?_ | refine FunPost.three ?_); (try simp (config := { maxSteps := 1000000 }) (disch := (first | omega | (simp only [go_sem]; try omega))) only [go_sem, ↓GSplit_t, ↓GSplit_f, ↓GSplit_tf, ↓GSplit_ft, Nat.reduceAdd, Nat.reduceEqDiff, Nat.reduceLeDiff, Nat.reduceMul, Nat.reduceLT, reduceIte, Int.reduceToNat, bne_self_eq_false, beq_self_eq_true, w64_id, cast_succ, Bool.false_eq_true, Bool.and_true, Bool.true_and, Bool.and_false, Bool.false_and, Bool.not_not])
    exact nilP
  cases h2 : (decide (2 ≤ k) && decide (k ≤ n))
  · rw [firstV, rangeOk, h1, h2]
    refine ACalls.introB s_spec_FirstDifferenceSet (by simp) ?_; intro hB hA; unfold c_spec_FirstDifferenceSet; simp (config := { maxSteps := 1000000 }) (disch := (first | omega | (simp only [go_sem]; try omega))) only [go_sem, ↓GSplit_t, ↓GSplit_f, ↓GSplit_tf, ↓GSplit_ft, Nat.reduceAdd, Nat.reduceEqDiff, Nat.reduceLeDiff, Nat.reduceMul, Nat.reduceLT, reduceIte, Int.reduceToNat, bne_self_eq_false, beq_self_eq_true, w64_id, cast_succ, Bool.false_eq_true, Bool.and_true, Bool.true_and, Bool.and_false, Bool.false_and, Bool.not_not]
    repeat (first | (with_reducible refine SW.seq ?_) | (with_reducible refine SW.block ?_) | (with_reducible refine SW.rowC ?_) | (with_reducible refine SW.skip ?_) | (with_reducible refine SW.exit ?_) | (with_reducible refine PFn.use (l00In_fn _ _ _) ?_) | (with_reducible refine PFn.useq (l00In_fn _ _ _) ?_) | (with_reducible intro _) | (with_reducible refine And.intro (by omega) ?_) | (simp (config := { maxSteps := 1000000 }) (disch := (first | omega | (simp only [go_sem]; try omega))) only [go_sem, ↓GSplit_t, ↓GSplit_f, ↓GSplit_tf, ↓GSplit_ft, Nat.reduceAdd, Nat.reduceEqDiff, Nat.reduceLeDiff, Nat.reduceMul, Nat.reduceLT, reduceIte, Int.reduceToNat, bne_self_eq_false, beq_self_eq_true, w64_id, cast_succ, Bool.false_eq_true, Bool.and_true, Bool.true_and, Bool.and_false, Bool.false_and, Bool.not_not, h1, h2]))
    refine SW.condT rfl ?_
    repeat (first | (with_reducible refine SW.seq ?_) | (with_reducible refine SW.block ?_) | (with_reducible refine SW.rowC ?_) | (with_reducible refine SW.skip ?_) | (with_reducible refine SW.exit ?_) | (with_reducible intro _) | (with_reducible refine And.intro (by omega) ?_) | (simp (config := { maxSteps := 1000000 }) (disch := (first | omega | (simp only [go_sem]; try omega))) only [go_sem, ↓GSplit_t, ↓GSplit_f, ↓GSplit_tf, ↓GSplit_ft, Nat.reduceAdd, Nat.reduceEqDiff, Nat.reduceLeDiff, Nat.reduceMul, Nat.reduceLT, reduceIte, Int.reduceToNat, bne_self_eq_false, beq_self_eq_true, w64_id, cast_succ, Bool.false_eq_true, Bool.and_true, Bool.true_and, Bool.and_false, Bool.false_and, Bool.not_not]))
    refine SW.ret ?_; (try simp only [go_sem]); (first | refine FunPost.one ?_ | refine FunPost.two ?_ | refine FunPost.three ?_); (try simp (config := { maxSteps := 1000000 }) (disch := (first | omega | (simp only [go_sem]; try omega))) only [go_sem, ↓GSplit_t, ↓GSplit_f, ↓GSplit_tf, ↓GSplit_ft, Nat.reduceAdd, Nat.reduceEqDiff, Nat.reduceLeDiff, Nat.reduceMul, Nat.reduceLT, reduceIte, Int.reduceToNat, bne_self_eq_false, beq_self_eq_true, w64_id, cast_succ, Bool.false_eq_true, Bool.and_true, Bool.true_and, Bool.and_false, Bool.false_and, Bool.not_not])
    exact nilP
  cases h3 : (decide (1 ≤ b) && decide (b ≤ 20000))
  · rw [firstV, rangeOk, h1, h2, h3]
    refine ACalls.introB s_spec_FirstDifferenceSet (by simp) ?_; intro hB hA; unfold c_spec_FirstDifferenceSet; simp (config := { maxSteps := 1000000 }) (disch := (first | omega | (simp only [go_sem]; try omega))) only [go_sem, ↓GSplit_t, ↓GSplit_f, ↓GSplit_tf, ↓GSplit_ft, Nat.reduceAdd, Nat.reduceEqDiff, Nat.reduceLeDiff, Nat.reduceMul, Nat.reduceLT, reduceIte, Int.reduceToNat, bne_self_eq_false, beq_self_eq_true, w64_id, cast_succ, Bool.false_eq_true, Bool.and_true, Bool.true_and, Bool.and_false, Bool.false_and, Bool.not_not]
    repeat (first | (with_reducible refine SW.seq ?_) | (with_reducible refine SW.block ?_) | (with_reducible refine SW.rowC ?_) | (with_reducible refine SW.skip ?_) | (with_reducible refine SW.exit ?_) | (with_reducible refine PFn.use (l00In_fn _ _ _) ?_) | (with_reducible refine PFn.useq (l00In_fn _ _ _) ?_) | (with_reducible intro _) | (with_reducible refine And.intro (by omega) ?_) | (simp (config := { maxSteps := 1000000 }) (disch := (first | omega | (simp only [go_sem]; try omega))) only [go_sem, ↓GSplit_t, ↓GSplit_f, ↓GSplit_tf, ↓GSplit_ft, Nat.reduceAdd, Nat.reduceEqDiff, Nat.reduceLeDiff, Nat.reduceMul, Nat.reduceLT, reduceIte, Int.reduceToNat, bne_self_eq_false, beq_self_eq_true, w64_id, cast_succ, Bool.false_eq_true, Bool.and_true, Bool.true_and, Bool.and_false, Bool.false_and, Bool.not_not, h1, h2, h3]))
    refine SW.condT rfl ?_
    repeat (first | (with_reducible refine SW.seq ?_) | (with_reducible refine SW.block ?_) | (with_reducible refine SW.rowC ?_) | (with_reducible refine SW.skip ?_) | (with_reducible refine SW.exit ?_) | (with_reducible intro _) | (with_reducible refine And.intro (by omega) ?_) | (simp (config := { maxSteps := 1000000 }) (disch := (first | omega | (simp only [go_sem]; try omega))) only [go_sem, ↓GSplit_t, ↓GSplit_f, ↓GSplit_tf, ↓GSplit_ft, Nat.reduceAdd, Nat.reduceEqDiff, Nat.reduceLeDiff, Nat.reduceMul, Nat.reduceLT, reduceIte, Int.reduceToNat, bne_self_eq_false, beq_self_eq_true, w64_id, cast_succ, Bool.false_eq_true, Bool.and_true, Bool.true_and, Bool.and_false, Bool.false_and, Bool.not_not]))
    refine SW.ret ?_; (try simp only [go_sem]); (first | refine FunPost.one ?_ | refine FunPost.two ?_ | refine FunPost.three ?_); (try simp (config := { maxSteps := 1000000 }) (disch := (first | omega | (simp only [go_sem]; try omega))) only [go_sem, ↓GSplit_t, ↓GSplit_f, ↓GSplit_tf, ↓GSplit_ft, Nat.reduceAdd, Nat.reduceEqDiff, Nat.reduceLeDiff, Nat.reduceMul, Nat.reduceLT, reduceIte, Int.reduceToNat, bne_self_eq_false, beq_self_eq_true, w64_id, cast_succ, Bool.false_eq_true, Bool.and_true, Bool.true_and, Bool.and_false, Bool.false_and, Bool.not_not])
    exact nilP
  have hr : rangeOk n k b = true := by rw [rangeOk, h1, h2, h3]; rfl
  simp only [Bool.and_eq_true, decide_eq_true_eq] at h1 h2 h3
  obtain ⟨N, rfl⟩ := Int.eq_ofNat_of_zero_le (show 0 ≤ n by omega)
  obtain ⟨B, rfl⟩ := Int.eq_ofNat_of_zero_le (show 0 ≤ b by omega)
  have d1 : (decide ((2 : Int) ≤ N) && decide ((N : Int) ≤ 32)) = true := by simp; omega
  have d2 : (decide (2 ≤ k) && decide (k ≤ N)) = true := by simp; omega
  have d3 : (decide ((1 : Int) ≤ B) && decide ((B : Int) ≤ 20000)) = true := by simp; omega
  by_cases c1 : lam < 1
  · rw [firstV, hr, stateOk, show decide (1 ≤ lam) = false from decide_eq_false (by omega)]
    refine ACalls.introB s_spec_FirstDifferenceSet (by simp) ?_; intro hB hA; unfold c_spec_FirstDifferenceSet; simp (config := { maxSteps := 1000000 }) (disch := (first | omega | (simp only [go_sem]; try omega))) only [go_sem, ↓GSplit_t, ↓GSplit_f, ↓GSplit_tf, ↓GSplit_ft, Nat.reduceAdd, Nat.reduceEqDiff, Nat.reduceLeDiff, Nat.reduceMul, Nat.reduceLT, reduceIte, Int.reduceToNat, bne_self_eq_false, beq_self_eq_true, w64_id, cast_succ, Bool.false_eq_true, Bool.and_true, Bool.true_and, Bool.and_false, Bool.false_and, Bool.not_not]
    repeat (first | (with_reducible refine SW.seq ?_) | (with_reducible refine SW.block ?_) | (with_reducible refine SW.rowC ?_) | (with_reducible refine SW.skip ?_) | (with_reducible refine SW.exit ?_) | (with_reducible refine PFn.use (l00In_fn _ _ _) ?_) | (with_reducible refine PFn.useq (l00In_fn _ _ _) ?_) | (with_reducible intro _) | (with_reducible refine And.intro (by omega) ?_) | (simp (config := { maxSteps := 1000000 }) (disch := (first | omega | (simp only [go_sem]; try omega))) only [go_sem, ↓GSplit_t, ↓GSplit_f, ↓GSplit_tf, ↓GSplit_ft, Nat.reduceAdd, Nat.reduceEqDiff, Nat.reduceLeDiff, Nat.reduceMul, Nat.reduceLT, reduceIte, Int.reduceToNat, bne_self_eq_false, beq_self_eq_true, w64_id, cast_succ, Bool.false_eq_true, Bool.and_true, Bool.true_and, Bool.and_false, Bool.false_and, Bool.not_not, d1, d2, d3]))
    refine SW.condF rfl ?_
    repeat (first | (with_reducible refine SW.seq ?_) | (with_reducible refine SW.block ?_) | (with_reducible refine SW.rowC ?_) | (with_reducible refine SW.skip ?_) | (with_reducible refine SW.exit ?_) | (with_reducible intro _) | (with_reducible refine And.intro (by omega) ?_) | (simp (config := { maxSteps := 1000000 }) (disch := (first | omega | (simp only [go_sem]; try omega))) only [go_sem, ↓GSplit_t, ↓GSplit_f, ↓GSplit_tf, ↓GSplit_ft, Nat.reduceAdd, Nat.reduceEqDiff, Nat.reduceLeDiff, Nat.reduceMul, Nat.reduceLT, reduceIte, Int.reduceToNat, bne_self_eq_false, beq_self_eq_true, w64_id, cast_succ, Bool.false_eq_true, Bool.and_true, Bool.true_and, Bool.and_false, Bool.false_and, Bool.not_not, show decide (lam < 1) = true from decide_eq_true c1]))
    refine SW.condT rfl ?_
    repeat (first | (with_reducible refine SW.seq ?_) | (with_reducible refine SW.block ?_) | (with_reducible refine SW.rowC ?_) | (with_reducible refine SW.skip ?_) | (with_reducible refine SW.exit ?_) | (with_reducible intro _) | (with_reducible refine And.intro (by omega) ?_) | (simp (config := { maxSteps := 1000000 }) (disch := (first | omega | (simp only [go_sem]; try omega))) only [go_sem, ↓GSplit_t, ↓GSplit_f, ↓GSplit_tf, ↓GSplit_ft, Nat.reduceAdd, Nat.reduceEqDiff, Nat.reduceLeDiff, Nat.reduceMul, Nat.reduceLT, reduceIte, Int.reduceToNat, bne_self_eq_false, beq_self_eq_true, w64_id, cast_succ, Bool.false_eq_true, Bool.and_true, Bool.true_and, Bool.and_false, Bool.false_and, Bool.not_not]))
    refine SW.ret ?_; (try simp only [go_sem]); (first | refine FunPost.one ?_ | refine FunPost.two ?_ | refine FunPost.three ?_); (try simp (config := { maxSteps := 1000000 }) (disch := (first | omega | (simp only [go_sem]; try omega))) only [go_sem, ↓GSplit_t, ↓GSplit_f, ↓GSplit_tf, ↓GSplit_ft, Nat.reduceAdd, Nat.reduceEqDiff, Nat.reduceLeDiff, Nat.reduceMul, Nat.reduceLT, reduceIte, Int.reduceToNat, bne_self_eq_false, beq_self_eq_true, w64_id, cast_succ, Bool.false_eq_true, Bool.and_true, Bool.true_and, Bool.and_false, Bool.false_and, Bool.not_not])
    exact nilP
  have k1 : decide (lam < 1) = false := decide_eq_false c1
  by_cases c2 : w64 (k * (k - 1)) < lam
  · rw [firstV, hr, stateOk, show decide (lam ≤ w64 (k * (k - 1))) = false from decide_eq_false (by omega)]
    refine ACalls.introB s_spec_FirstDifferenceSet (by simp) ?_; intro hB hA; unfold c_spec_FirstDifferenceSet; simp (config := { maxSteps := 1000000 }) (disch := (first | omega | (simp only [go_sem]; try omega))) only [go_sem, ↓GSplit_t, ↓GSplit_f, ↓GSplit_tf, ↓GSplit_ft, Nat.reduceAdd, Nat.reduceEqDiff, Nat.reduceLeDiff, Nat.reduceMul, Nat.reduceLT, reduceIte, Int.reduceToNat, bne_self_eq_false, beq_self_eq_true, w64_id, cast_succ, Bool.false_eq_true, Bool.and_true, Bool.true_and, Bool.and_false, Bool.false_and, Bool.not_not]
    repeat (first | (with_reducible refine SW.seq ?_) | (with_reducible refine SW.block ?_) | (with_reducible refine SW.rowC ?_) | (with_reducible refine SW.skip ?_) | (with_reducible refine SW.exit ?_) | (with_reducible refine PFn.use (l00In_fn _ _ _) ?_) | (with_reducible refine PFn.useq (l00In_fn _ _ _) ?_) | (with_reducible intro _) | (with_reducible refine And.intro (by omega) ?_) | (simp (config := { maxSteps := 1000000 }) (disch := (first | omega | (simp only [go_sem]; try omega))) only [go_sem, ↓GSplit_t, ↓GSplit_f, ↓GSplit_tf, ↓GSplit_ft, Nat.reduceAdd, Nat.reduceEqDiff, Nat.reduceLeDiff, Nat.reduceMul, Nat.reduceLT, reduceIte, Int.reduceToNat, bne_self_eq_false, beq_self_eq_true, w64_id, cast_succ, Bool.false_eq_true, Bool.and_true, Bool.true_and, Bool.and_false, Bool.false_and, Bool.not_not, d1, d2, d3]))
    refine SW.condF rfl ?_
    repeat (first | (with_reducible refine SW.seq ?_) | (with_reducible refine SW.block ?_) | (with_reducible refine SW.rowC ?_) | (with_reducible refine SW.skip ?_) | (with_reducible refine SW.exit ?_) | (with_reducible intro _) | (with_reducible refine And.intro (by omega) ?_) | (simp (config := { maxSteps := 1000000 }) (disch := (first | omega | (simp only [go_sem]; try omega))) only [go_sem, ↓GSplit_t, ↓GSplit_f, ↓GSplit_tf, ↓GSplit_ft, Nat.reduceAdd, Nat.reduceEqDiff, Nat.reduceLeDiff, Nat.reduceMul, Nat.reduceLT, reduceIte, Int.reduceToNat, bne_self_eq_false, beq_self_eq_true, w64_id, cast_succ, Bool.false_eq_true, Bool.and_true, Bool.true_and, Bool.and_false, Bool.false_and, Bool.not_not, k1, show decide (w64 (k * (k - 1)) < lam) = true from decide_eq_true c2]))
    refine SW.condT rfl ?_
    repeat (first | (with_reducible refine SW.seq ?_) | (with_reducible refine SW.block ?_) | (with_reducible refine SW.rowC ?_) | (with_reducible refine SW.skip ?_) | (with_reducible refine SW.exit ?_) | (with_reducible intro _) | (with_reducible refine And.intro (by omega) ?_) | (simp (config := { maxSteps := 1000000 }) (disch := (first | omega | (simp only [go_sem]; try omega))) only [go_sem, ↓GSplit_t, ↓GSplit_f, ↓GSplit_tf, ↓GSplit_ft, Nat.reduceAdd, Nat.reduceEqDiff, Nat.reduceLeDiff, Nat.reduceMul, Nat.reduceLT, reduceIte, Int.reduceToNat, bne_self_eq_false, beq_self_eq_true, w64_id, cast_succ, Bool.false_eq_true, Bool.and_true, Bool.true_and, Bool.and_false, Bool.false_and, Bool.not_not]))
    refine SW.ret ?_; (try simp only [go_sem]); (first | refine FunPost.one ?_ | refine FunPost.two ?_ | refine FunPost.three ?_); (try simp (config := { maxSteps := 1000000 }) (disch := (first | omega | (simp only [go_sem]; try omega))) only [go_sem, ↓GSplit_t, ↓GSplit_f, ↓GSplit_tf, ↓GSplit_ft, Nat.reduceAdd, Nat.reduceEqDiff, Nat.reduceLeDiff, Nat.reduceMul, Nat.reduceLT, reduceIte, Int.reduceToNat, bne_self_eq_false, beq_self_eq_true, w64_id, cast_succ, Bool.false_eq_true, Bool.and_true, Bool.true_and, Bool.and_false, Bool.false_and, Bool.not_not])
    exact nilP
  have k2 : decide (w64 (k * (k - 1)) < lam) = false := decide_eq_false c2
  by_cases c3 : w64 (k * (k - 1)) = w64 (lam * (N - 1))
  · have hst : stateOk N k lam = true := by rw [stateOk, decide_eq_true c3, decide_eq_true (show 1 ≤ lam by omega), decide_eq_true (show lam ≤ w64 (k * (k - 1)) by omega)]; rfl
    cases hv : visitM N k lam N [0] B with
    | mk c sl =>
    cases sl with
    | mk s l =>
    have hl := l13First_fn N k lam B (by omega) (by omega) (by omega) (by omega) c s l hv
    rw [firstV_3 hr hst (by simpa using hv)]
    have e : firstAV (if c = 1 then (s, 0) else if c = 2 then ([], 5) else ([], 3)) = (if c = 1 then .tup [ilS s, I 0] else if c = 2 then .tup [ilS [], I 5] else .tup [ilS [], I 3]) := by
      split
      · rfl
      · split <;> rfl
    rw [e]
    obtain ⟨ys, cd, hyc⟩ : ∃ ys cd, (if c = 1 then AV.tup [ilS s, I 0] else if c = 2 then .tup [ilS [], I 5] else .tup [ilS [], I 3]) = .tup [ilS ys, I cd] := by
      split
      · exact ⟨_, _, rfl⟩
      · split <;> exact ⟨_, _, rfl⟩
    rw [hyc] at hl ⊢
    refine ACalls.introB s_spec_FirstDifferenceSet (by simp) ?_; intro hB hA; unfold c_spec_FirstDifferenceSet; simp (config := { maxSteps := 1000000 }) (disch := (first | omega | (simp only [go_sem]; try omega))) only [go_sem, ↓GSplit_t, ↓GSplit_f, ↓GSplit_tf, ↓GSplit_ft, Nat.reduceAdd, Nat.reduceEqDiff, Nat.reduceLeDiff, Nat.reduceMul, Nat.reduceLT, reduceIte, Int.reduceToNat, bne_self_eq_false, beq_self_eq_true, w64_id, cast_succ, Bool.false_eq_true, Bool.and_true, Bool.true_and, Bool.and_false, Bool.false_and, Bool.not_not]
    repeat (first | (with_reducible refine SW.seq ?_) | (with_reducible refine SW.block ?_) | (with_reducible refine SW.rowC ?_) | (with_reducible refine SW.skip ?_) | (with_reducible refine SW.exit ?_) | (with_reducible refine PFn.use (l00In_fn _ _ _) ?_) | (with_reducible refine PFn.useq (l00In_fn _ _ _) ?_) | (with_reducible intro _) | (with_reducible refine And.intro (by omega) ?_) | (simp (config := { maxSteps := 1000000 }) (disch := (first | omega | (simp only [go_sem]; try omega))) only [go_sem, ↓GSplit_t, ↓GSplit_f, ↓GSplit_tf, ↓GSplit_ft, Nat.reduceAdd, Nat.reduceEqDiff, Nat.reduceLeDiff, Nat.reduceMul, Nat.reduceLT, reduceIte, Int.reduceToNat, bne_self_eq_false, beq_self_eq_true, w64_id, cast_succ, Bool.false_eq_true, Bool.and_true, Bool.true_and, Bool.and_false, Bool.false_and, Bool.not_not, d1, d2, d3]))
    refine SW.condF rfl ?_
    repeat (first | (with_reducible refine SW.seq ?_) | (with_reducible refine SW.block ?_) | (with_reducible refine SW.rowC ?_) | (with_reducible refine SW.skip ?_) | (with_reducible refine SW.exit ?_) | (with_reducible intro _) | (with_reducible refine And.intro (by omega) ?_) | (simp (config := { maxSteps := 1000000 }) (disch := (first | omega | (simp only [go_sem]; try omega))) only [go_sem, ↓GSplit_t, ↓GSplit_f, ↓GSplit_tf, ↓GSplit_ft, Nat.reduceAdd, Nat.reduceEqDiff, Nat.reduceLeDiff, Nat.reduceMul, Nat.reduceLT, reduceIte, Int.reduceToNat, bne_self_eq_false, beq_self_eq_true, w64_id, cast_succ, Bool.false_eq_true, Bool.and_true, Bool.true_and, Bool.and_false, Bool.false_and, Bool.not_not, k1, k2, show decide (w64 (k * (k - 1)) = w64 (lam * (N - 1))) = true from decide_eq_true c3]))
    refine SW.condF rfl ?_
    repeat (first | (with_reducible refine SW.seq ?_) | (with_reducible refine SW.block ?_) | (with_reducible refine SW.rowC ?_) | (with_reducible refine SW.skip ?_) | (with_reducible refine SW.exit ?_) | (with_reducible refine PFn.use (hl) ?_) | (with_reducible refine PFn.useq (hl) ?_) | (with_reducible intro _) | (with_reducible refine And.intro (by omega) ?_) | (simp (config := { maxSteps := 1000000 }) (disch := (first | omega | (simp only [go_sem]; try omega))) only [go_sem, ↓GSplit_t, ↓GSplit_f, ↓GSplit_tf, ↓GSplit_ft, Nat.reduceAdd, Nat.reduceEqDiff, Nat.reduceLeDiff, Nat.reduceMul, Nat.reduceLT, reduceIte, Int.reduceToNat, bne_self_eq_false, beq_self_eq_true, w64_id, cast_succ, Bool.false_eq_true, Bool.and_true, Bool.true_and, Bool.and_false, Bool.false_and, Bool.not_not]))
    refine SW.ret ?_; (try simp only [go_sem]); (first | refine FunPost.one ?_ | refine FunPost.two ?_ | refine FunPost.three ?_); (try simp (config := { maxSteps := 1000000 }) (disch := (first | omega | (simp only [go_sem]; try omega))) only [go_sem, ↓GSplit_t, ↓GSplit_f, ↓GSplit_tf, ↓GSplit_ft, Nat.reduceAdd, Nat.reduceEqDiff, Nat.reduceLeDiff, Nat.reduceMul, Nat.reduceLT, reduceIte, Int.reduceToNat, bne_self_eq_false, beq_self_eq_true, w64_id, cast_succ, Bool.false_eq_true, Bool.and_true, Bool.true_and, Bool.and_false, Bool.false_and, Bool.not_not])
    exact GR.of ⟨rfl, rfl⟩
  · rw [firstV, hr, stateOk, show decide (w64 (k * (k - 1)) = w64 (lam * (N - 1))) = false from decide_eq_false c3]
    refine ACalls.introB s_spec_FirstDifferenceSet (by simp) ?_; intro hB hA; unfold c_spec_FirstDifferenceSet; simp (config := { maxSteps := 1000000 }) (disch := (first | omega | (simp only [go_sem]; try omega))) only [go_sem, ↓GSplit_t, ↓GSplit_f, ↓GSplit_tf, ↓GSplit_ft, Nat.reduceAdd, Nat.reduceEqDiff, Nat.reduceLeDiff, Nat.reduceMul, Nat.reduceLT, reduceIte, Int.reduceToNat, bne_self_eq_false, beq_self_eq_true, w64_id, cast_succ, Bool.false_eq_true, Bool.and_true, Bool.true_and, Bool.and_false, Bool.false_and, Bool.not_not]
    repeat (first | (with_reducible refine SW.seq ?_) | (with_reducible refine SW.block ?_) | (with_reducible refine SW.rowC ?_) | (with_reducible refine SW.skip ?_) | (with_reducible refine SW.exit ?_) | (with_reducible refine PFn.use (l00In_fn _ _ _) ?_) | (with_reducible refine PFn.useq (l00In_fn _ _ _) ?_) | (with_reducible intro _) | (with_reducible refine And.intro (by omega) ?_) | (simp (config := { maxSteps := 1000000 }) (disch := (first | omega | (simp only [go_sem]; try omega))) only [go_sem, ↓GSplit_t, ↓GSplit_f, ↓GSplit_tf, ↓GSplit_ft, Nat.reduceAdd, Nat.reduceEqDiff, Nat.reduceLeDiff, Nat.reduceMul, Nat.reduceLT, reduceIte, Int.reduceToNat, bne_self_eq_false, beq_self_eq_true, w64_id, cast_succ, Bool.false_eq_true, Bool.and_true, Bool.true_and, Bool.and_false, Bool.false_and, Bool.not_not, d1, d2, d3]))
    refine SW.condF rfl ?_
    repeat (first | (with_reducible refine SW.seq ?_) | (with_reducible refine SW.block ?_) | (with_reducible refine SW.rowC ?_) | (with_reducible refine SW.skip ?_) | (with_reducible refine SW.exit ?_) | (with_reducible intro _) | (with_reducible refine And.intro (by omega) ?_) | (simp (config := { maxSteps := 1000000 }) (disch := (first | omega | (simp only [go_sem]; try omega))) only [go_sem, ↓GSplit_t, ↓GSplit_f, ↓GSplit_tf, ↓GSplit_ft, Nat.reduceAdd, Nat.reduceEqDiff, Nat.reduceLeDiff, Nat.reduceMul, Nat.reduceLT, reduceIte, Int.reduceToNat, bne_self_eq_false, beq_self_eq_true, w64_id, cast_succ, Bool.false_eq_true, Bool.and_true, Bool.true_and, Bool.and_false, Bool.false_and, Bool.not_not, k1, k2, show decide (w64 (k * (k - 1)) = w64 (lam * (N - 1))) = false from decide_eq_false c3]))
    refine SW.condT rfl ?_
    repeat (first | (with_reducible refine SW.seq ?_) | (with_reducible refine SW.block ?_) | (with_reducible refine SW.rowC ?_) | (with_reducible refine SW.skip ?_) | (with_reducible refine SW.exit ?_) | (with_reducible intro _) | (with_reducible refine And.intro (by omega) ?_) | (simp (config := { maxSteps := 1000000 }) (disch := (first | omega | (simp only [go_sem]; try omega))) only [go_sem, ↓GSplit_t, ↓GSplit_f, ↓GSplit_tf, ↓GSplit_ft, Nat.reduceAdd, Nat.reduceEqDiff, Nat.reduceLeDiff, Nat.reduceMul, Nat.reduceLT, reduceIte, Int.reduceToNat, bne_self_eq_false, beq_self_eq_true, w64_id, cast_succ, Bool.false_eq_true, Bool.and_true, Bool.true_and, Bool.and_false, Bool.false_and, Bool.not_not]))
    refine SW.ret ?_; (try simp only [go_sem]); (first | refine FunPost.one ?_ | refine FunPost.two ?_ | refine FunPost.three ?_); (try simp (config := { maxSteps := 1000000 }) (disch := (first | omega | (simp only [go_sem]; try omega))) only [go_sem, ↓GSplit_t, ↓GSplit_f, ↓GSplit_tf, ↓GSplit_ft, Nat.reduceAdd, Nat.reduceEqDiff, Nat.reduceLeDiff, Nat.reduceMul, Nat.reduceLT, reduceIte, Int.reduceToNat, bne_self_eq_false, beq_self_eq_true, w64_id, cast_succ, Bool.false_eq_true, Bool.and_true, Bool.true_and, Bool.and_false, Bool.false_and, Bool.not_not])
    exact nilP

theorem specSinger_fn (q : Int) : PFn Try.prog f_spec_SingerSet [I q] (firstAV (singerV q)) := by
  intro H
  by_cases h1 : 2 ≤ q ∧ q ≤ 5
  · have d1 : (decide (2 ≤ q) && decide (q ≤ 5)) = true := by simp; omega
    rw [singerV, d1, if_pos rfl]
    have hq : w64 (q * q) = q * q := by
      have : q = 2 ∨ q = 3 ∨ q = 4 ∨ q = 5 := by omega
      rcases this with rfl | rfl | rfl | rfl <;> rfl
    have hq2 : q * q ≤ 25 ∧ 4 ≤ q * q := by
      have : q = 2 ∨ q = 3 ∨ q = 4 ∨ q = 5 := by omega
      rcases this with rfl | rfl | rfl | rfl <;> decide
    obtain ⟨N, hN⟩ := Int.eq_ofNat_of_zero_le (show 0 ≤ q * q + q + 1 by omega)
    cases hv : visitM N (q + 1) 1 N [0] 20000 with
    | mk c sl =>
    cases sl with
    | mk s l =>
    have hl := l13First_fn N (q + 1) 1 20000 (by omega) (by omega) (by omega) (by omega) c s l hv
    have hr : rangeOk (q * q + q + 1) (q + 1) 20000 = true := by
      have : q = 2 ∨ q = 3 ∨ q = 4 ∨ q = 5 := by omega
      rcases this with rfl | rfl | rfl | rfl <;> decide
    have hst : stateOk (q * q + q + 1) (q + 1) 1 = true := by
      have : q = 2 ∨ q = 3 ∨ q = 4 ∨ q = 5 := by omega
      rcases this with rfl | rfl | rfl | rfl <;> decide
    rw [firstV_3 (c := c) (s := s) (l := l) hr hst (by rw [hN]; exact hv)]
    have e : firstAV (if c = 1 then (s, 0) else if c = 2 then ([], 5) else ([], 3)) = (if c = 1 then .tup [ilS s, I 0] else if c = 2 then .tup [ilS [], I 5] else .tup [ilS [], I 3]) := by
      split
      · rfl
      · split <;> rfl
    rw [e]
    obtain ⟨ys, cd, hyc⟩ : ∃ ys cd, (if c = 1 then AV.tup [ilS s, I 0] else if c = 2 then .tup [ilS [], I 5] else .tup [ilS [], I 3]) = .tup [ilS ys, I cd] := by
      split
      · exact ⟨_, _, rfl⟩
      · split <;> exact ⟨_, _, rfl⟩
    rw [hyc] at hl ⊢
    rw [← hN] at hl
    refine ACalls.introB s_spec_SingerSet (by simp) ?_; intro hB hA; unfold c_spec_SingerSet; simp (config := { maxSteps := 1000000 }) (disch := (first | omega | (simp only [go_sem]; try omega))) only [go_sem, ↓GSplit_t, ↓GSplit_f, ↓GSplit_tf, ↓GSplit_ft, Nat.reduceAdd, Nat.reduceEqDiff, Nat.reduceLeDiff, Nat.reduceMul, Nat.reduceLT, reduceIte, Int.reduceToNat, bne_self_eq_false, beq_self_eq_true, w64_id, cast_succ, Bool.false_eq_true, Bool.and_true, Bool.true_and, Bool.and_false, Bool.false_and, Bool.not_not]
    repeat (first | (with_reducible refine SW.seq ?_) | (with_reducible refine SW.block ?_) | (with_reducible refine SW.rowC ?_) | (with_reducible refine SW.skip ?_) | (with_reducible refine SW.exit ?_) | (with_reducible refine PFn.use (l00In_fn _ _ _) ?_) | (with_reducible refine PFn.useq (l00In_fn _ _ _) ?_) | (with_reducible intro _) | (with_reducible refine And.intro (by omega) ?_) | (simp (config := { maxSteps := 1000000 }) (disch := (first | omega | (simp only [go_sem]; try omega))) only [go_sem, ↓GSplit_t, ↓GSplit_f, ↓GSplit_tf, ↓GSplit_ft, Nat.reduceAdd, Nat.reduceEqDiff, Nat.reduceLeDiff, Nat.reduceMul, Nat.reduceLT, reduceIte, Int.reduceToNat, bne_self_eq_false, beq_self_eq_true, w64_id, cast_succ, Bool.false_eq_true, Bool.and_true, Bool.true_and, Bool.and_false, Bool.false_and, Bool.not_not, d1]))
    refine SW.condF rfl ?_
    repeat (first | (with_reducible refine SW.seq ?_) | (with_reducible refine SW.block ?_) | (with_reducible refine SW.rowC ?_) | (with_reducible refine SW.skip ?_) | (with_reducible refine SW.exit ?_) | (with_reducible refine PFn.use (hl) ?_) | (with_reducible refine PFn.useq (hl) ?_) | (with_reducible intro _) | (with_reducible refine And.intro (by omega) ?_) | (simp (config := { maxSteps := 1000000 }) (disch := (first | omega | (simp only [go_sem]; try omega))) only [go_sem, ↓GSplit_t, ↓GSplit_f, ↓GSplit_tf, ↓GSplit_ft, Nat.reduceAdd, Nat.reduceEqDiff, Nat.reduceLeDiff, Nat.reduceMul, Nat.reduceLT, reduceIte, Int.reduceToNat, bne_self_eq_false, beq_self_eq_true, w64_id, cast_succ, Bool.false_eq_true, Bool.and_true, Bool.true_and, Bool.and_false, Bool.false_and, Bool.not_not, hq]))
    refine SW.ret ?_; (try simp only [go_sem]); (first | refine FunPost.one ?_ | refine FunPost.two ?_ | refine FunPost.three ?_); (try simp (config := { maxSteps := 1000000 }) (disch := (first | omega | (simp only [go_sem]; try omega))) only [go_sem, ↓GSplit_t, ↓GSplit_f, ↓GSplit_tf, ↓GSplit_ft, Nat.reduceAdd, Nat.reduceEqDiff, Nat.reduceLeDiff, Nat.reduceMul, Nat.reduceLT, reduceIte, Int.reduceToNat, bne_self_eq_false, beq_self_eq_true, w64_id, cast_succ, Bool.false_eq_true, Bool.and_true, Bool.true_and, Bool.and_false, Bool.false_and, Bool.not_not])
    exact GR.of ⟨rfl, rfl⟩
  · have d1 : (decide (2 ≤ q) && decide (q ≤ 5)) = false := by
      rw [Bool.eq_false_iff]; simp; omega
    rw [singerV, d1]
    refine ACalls.introB s_spec_SingerSet (by simp) ?_; intro hB hA; unfold c_spec_SingerSet; simp (config := { maxSteps := 1000000 }) (disch := (first | omega | (simp only [go_sem]; try omega))) only [go_sem, ↓GSplit_t, ↓GSplit_f, ↓GSplit_tf, ↓GSplit_ft, Nat.reduceAdd, Nat.reduceEqDiff, Nat.reduceLeDiff, Nat.reduceMul, Nat.reduceLT, reduceIte, Int.reduceToNat, bne_self_eq_false, beq_self_eq_true, w64_id, cast_succ, Bool.false_eq_true, Bool.and_true, Bool.true_and, Bool.and_false, Bool.false_and, Bool.not_not]
    repeat (first | (with_reducible refine SW.seq ?_) | (with_reducible refine SW.block ?_) | (with_reducible refine SW.rowC ?_) | (with_reducible refine SW.skip ?_) | (with_reducible refine SW.exit ?_) | (with_reducible refine PFn.use (l00In_fn _ _ _) ?_) | (with_reducible refine PFn.useq (l00In_fn _ _ _) ?_) | (with_reducible intro _) | (with_reducible refine And.intro (by omega) ?_) | (simp (config := { maxSteps := 1000000 }) (disch := (first | omega | (simp only [go_sem]; try omega))) only [go_sem, ↓GSplit_t, ↓GSplit_f, ↓GSplit_tf, ↓GSplit_ft, Nat.reduceAdd, Nat.reduceEqDiff, Nat.reduceLeDiff, Nat.reduceMul, Nat.reduceLT, reduceIte, Int.reduceToNat, bne_self_eq_false, beq_self_eq_true, w64_id, cast_succ, Bool.false_eq_true, Bool.and_true, Bool.true_and, Bool.and_false, Bool.false_and, Bool.not_not, d1]))
    refine SW.condT rfl ?_
    repeat (first | (with_reducible refine SW.seq ?_) | (with_reducible refine SW.block ?_) | (with_reducible refine SW.rowC ?_) | (with_reducible refine SW.skip ?_) | (with_reducible refine SW.exit ?_) | (with_reducible intro _) | (with_reducible refine And.intro (by omega) ?_) | (simp (config := { maxSteps := 1000000 }) (disch := (first | omega | (simp only [go_sem]; try omega))) only [go_sem, ↓GSplit_t, ↓GSplit_f, ↓GSplit_tf, ↓GSplit_ft, Nat.reduceAdd, Nat.reduceEqDiff, Nat.reduceLeDiff, Nat.reduceMul, Nat.reduceLT, reduceIte, Int.reduceToNat, bne_self_eq_false, beq_self_eq_true, w64_id, cast_succ, Bool.false_eq_true, Bool.and_true, Bool.true_and, Bool.and_false, Bool.false_and, Bool.not_not]))
    refine SW.ret ?_; (try simp only [go_sem]); (first | refine FunPost.one ?_ | refine FunPost.two ?_ | refine FunPost.three ?_); (try simp (config := { maxSteps := 1000000 }) (disch := (first | omega | (simp only [go_sem]; try omega))) only [go_sem, ↓GSplit_t, ↓GSplit_f, ↓GSplit_tf, ↓GSplit_ft, Nat.reduceAdd, Nat.reduceEqDiff, Nat.reduceLeDiff, Nat.reduceMul, Nat.reduceLT, reduceIte, Int.reduceToNat, bne_self_eq_false, beq_self_eq_true, w64_id, cast_succ, Bool.false_eq_true, Bool.and_true, Bool.true_and, Bool.and_false, Bool.false_and, Bool.not_not])
    exact nilP
end Go.Proofs.Ytmgbglekgigkmaa
