/- Indices and lambdas of designs: the laws. -/
import Derived.Test.YtkpohapopokahaaProg
import Derived.KernelRfl
import Derived.Test.YtkpohapopokahaaK24
set_option linter.unusedSimpArgs false
set_option linter.unusedVariables false
set_option maxHeartbeats 4000000
namespace Go.Proofs.Ytkpohapopokahaa
open Go.Av

/-! The abstract code of functions, printed by program and tied to the program by the kernel. -/
/-- loop.example/g00920/laws.FnExactTIndex -/
abbrev f_laws_FnExactTIndex : Nat := 10
def c_laws_FnExactTIndex : SC :=
 .seq (.reg [
     ⟨(some 2), .box 45 (.tmp 0), none⟩,
     ⟨(some 4), .mv (.const (.bool false)), none⟩] [1, 2])
 (.seq (.reg [
     ⟨(some 5), .mv (.const (.int .i64 1048576)), none⟩] [1, 2, 5])
 (.seq (.reg [
     ⟨(some 11), .load 2 true (.tmp 2), none⟩,
     ⟨(some 12), .mv (.tmp 5), none⟩,
     ⟨(some 13), .call 31 [(.tmp 11), (.tmp 12)], none⟩,
     ⟨(some 5), .mv (.tmp 13), none⟩] [1, 2, 5])
 (.seq (.seq (.reg [
     ⟨(some 14), .mv (.tmp 5), none⟩,
     ⟨(some 15), .bin .lss (.tmp 14) (.const (.int .i64 0)), none⟩] [1, 2, 15])
 (.cond (.tmp 15)
  (.seq (.reg [
      ⟨(some 4), .mv (.const (.bool true)), none⟩] [4])
  (.ret))
  (.skip)))
 (.seq (.reg [
     ⟨(some 17), .load 2 true (.tmp 2), none⟩,
     ⟨(some 18), .call 33 [(.tmp 17)], none⟩,
     ⟨(some 19), .mv (.tmp 1), none⟩,
     ⟨(some 20), .call 46 [(.tmp 18), (.tmp 19)], none⟩,
     ⟨(some 16), .mv (.tmp 20), none⟩,
     ⟨(some 21), .ext (.tmp 16) 0, none⟩,
     ⟨(some 22), .ext (.tmp 16) 1, none⟩,
     ⟨(some 6), .mv (.tmp 21), none⟩,
     ⟨(some 7), .mv (.tmp 22), none⟩] [1, 2, 6, 7])
 (.seq (.reg [
     ⟨(some 23), .load 2 true (.tmp 2), none⟩,
     ⟨(some 24), .call 33 [(.tmp 23)], none⟩,
     ⟨(some 8), .alloc 48 [(.int .i64 0), (.slice none 0 0)], none⟩,
     ⟨none, .store 2 (.tmp 8) (.tmp 24), none⟩] [1, 2, 6, 7, 8])
 (.seq (.reg [
     ⟨(some 26), .load 2 true (.tmp 8), none⟩,
     ⟨(some 27), .mv (.tmp 1), none⟩,
     ⟨(some 28), .call 47 [(.tmp 26), (.tmp 27)], none⟩,
     ⟨(some 25), .mv (.tmp 28), none⟩,
     ⟨(some 29), .ext (.tmp 25) 0, none⟩,
     ⟨(some 30), .ext (.tmp 25) 1, none⟩,
     ⟨(some 9), .mv (.tmp 29), none⟩,
     ⟨(some 10), .mv (.tmp 30), none⟩] [2, 6, 7, 8, 9, 10])
 (.seq (.seq (.reg [
     ⟨(some 31), .mv (.tmp 9), none⟩,
     ⟨(some 32), .mv (.tmp 6), none⟩,
     ⟨(some 33), .bin .neq (.tmp 31) (.tmp 32), none⟩,
     ⟨(some 34), .mv (.tmp 33), none⟩,
     ⟨(some 35), .mv (.tmp 10), (some (34, false))⟩,
     ⟨(some 36), .mv (.tmp 7), (some (34, false))⟩,
     ⟨(some 37), .bin .neq (.tmp 35) (.tmp 36), (some (34, false))⟩,
     ⟨(some 38), .pick (.tmp 34) (.const (.bool true)) (.tmp 37), none⟩] [2, 8, 38])
 (.cond (.tmp 38)
  (.seq (.reg [
      ⟨(some 4), .mv (.const (.bool false)), none⟩] [4])
  (.ret))
  (.skip)))
 (.seq (.seq (.reg [
     ⟨(some 39), .load 2 true (.tmp 8), none⟩,
     ⟨(some 40), .load 2 true (.tmp 2), none⟩,
     ⟨(some 41), .qcall 33 [(.tmp 40)], none⟩,
     ⟨(some 42), .qcall 35 [(.tmp 39), (.tmp 41)], none⟩,
     ⟨(some 43), .un .not (.tmp 42), none⟩] [43])
 (.cond (.tmp 43)
  (.seq (.reg [
      ⟨(some 4), .mv (.const (.bool false)), none⟩] [4])
  (.ret))
  (.skip)))
 (.seq (.reg [
     ⟨(some 4), .mv (.const (.bool true)), none⟩] [4])
 (.ret))))))))))
theorem s_laws_FnExactTIndex : stripF Try.prog 10 [[1, 2], [1, 2, 5], [1, 2, 5], [1, 2, 15], [4], [1, 2, 6, 7], [1, 2, 6, 7, 8], [2, 6, 7, 8, 9, 10], [2, 8, 38], [4], [43], [4], [4]] = some (c_laws_FnExactTIndex, [.tmp 4], 44) := by kernel_rfl

/-- loop.example/g00920/laws.FnExactLambdasOf -/
abbrev f_laws_FnExactLambdasOf : Nat := 13
def c_laws_FnExactLambdasOf : SC :=
 .seq (.reg [
     ⟨(some 2), .box 45 (.tmp 0), none⟩,
     ⟨(some 4), .mv (.const (.bool false)), none⟩] [1, 2])
 (.seq (.reg [
     ⟨(some 5), .mv (.const (.int .i64 1048576)), none⟩] [1, 2, 5])
 (.seq (.reg [
     ⟨(some 16), .load 2 true (.tmp 2), none⟩,
     ⟨(some 17), .mv (.tmp 5), none⟩,
     ⟨(some 18), .call 31 [(.tmp 16), (.tmp 17)], none⟩,
     ⟨(some 5), .mv (.tmp 18), none⟩] [1, 2, 5])
 (.seq (.seq (.reg [
     ⟨(some 19), .mv (.tmp 5), none⟩,
     ⟨(some 20), .bin .lss (.tmp 19) (.const (.int .i64 0)), none⟩] [1, 2, 20])
 (.cond (.tmp 20)
  (.seq (.reg [
      ⟨(some 4), .mv (.const (.bool true)), none⟩] [4])
  (.ret))
  (.skip)))
 (.seq (.reg [
     ⟨(some 22), .load 2 true (.tmp 2), none⟩,
     ⟨(some 23), .call 33 [(.tmp 22)], none⟩,
     ⟨(some 24), .mv (.tmp 1), none⟩,
     ⟨(some 25), .call 53 [(.tmp 23), (.tmp 24)], none⟩,
     ⟨(some 21), .mv (.tmp 25), none⟩,
     ⟨(some 26), .ext (.tmp 21) 0, none⟩,
     ⟨(some 27), .ext (.tmp 21) 1, none⟩,
     ⟨(some 6), .mv (.tmp 26), none⟩,
     ⟨(some 7), .mv (.tmp 27), none⟩] [1, 2, 6, 7])
 (.seq (.reg [
     ⟨(some 28), .load 2 true (.tmp 2), none⟩,
     ⟨(some 29), .call 33 [(.tmp 28)], none⟩,
     ⟨(some 8), .alloc 48 [(.int .i64 0), (.slice none 0 0)], none⟩,
     ⟨none, .store 2 (.tmp 8) (.tmp 29), none⟩] [1, 2, 6, 7, 8])
 (.seq (.reg [
     ⟨(some 31), .load 2 true (.tmp 8), none⟩,
     ⟨(some 32), .mv (.tmp 1), none⟩,
     ⟨(some 33), .call 54 [(.tmp 31), (.tmp 32)], none⟩,
     ⟨(some 30), .mv (.tmp 33), none⟩,
     ⟨(some 34), .ext (.tmp 30) 0, none⟩,
     ⟨(some 35), .ext (.tmp 30) 1, none⟩,
     ⟨(some 9), .mv (.tmp 34), none⟩,
     ⟨(some 10), .mv (.tmp 35), none⟩] [1, 2, 6, 7, 8, 9, 10])
 (.seq (.seq (.reg [
     ⟨(some 36), .mv (.tmp 9), none⟩,
     ⟨(some 37), .mv (.tmp 6), none⟩,
     ⟨(some 38), .call 19 [(.tmp 36), (.tmp 37)], none⟩,
     ⟨(some 39), .un .not (.tmp 38), none⟩,
     ⟨(some 40), .mv (.tmp 39), none⟩,
     ⟨(some 41), .mv (.tmp 10), (some (40, false))⟩,
     ⟨(some 42), .mv (.tmp 7), (some (40, false))⟩,
     ⟨(some 43), .bin .neq (.tmp 41) (.tmp 42), (some (40, false))⟩,
     ⟨(some 44), .pick (.tmp 40) (.const (.bool true)) (.tmp 43), none⟩] [1, 2, 6, 7, 8, 9, 10, 44])
 (.cond (.tmp 44)
  (.seq (.reg [
      ⟨(some 4), .mv (.const (.bool false)), none⟩] [4])
  (.ret))
  (.skip)))
 (.seq (.seq (.reg [
     ⟨(some 45), .load 2 true (.tmp 8), none⟩,
     ⟨(some 46), .load 2 true (.tmp 2), none⟩,
     ⟨(some 47), .qcall 33 [(.tmp 46)], none⟩,
     ⟨(some 48), .qcall 35 [(.tmp 45), (.tmp 47)], none⟩,
     ⟨(some 49), .un .not (.tmp 48), none⟩] [1, 2, 6, 7, 8, 9, 10, 49])
 (.cond (.tmp 49)
  (.seq (.reg [
      ⟨(some 4), .mv (.const (.bool false)), none⟩] [4])
  (.ret))
  (.skip)))
 (.seq (.reg [
     ⟨(some 11), .mv (.const (.int .i64 1)), none⟩] [1, 2, 6, 7, 8, 9, 10, 11])
 (.seq (.reg [
     ⟨(some 50), .load 2 true (.tmp 8), none⟩,
     ⟨(some 51), .mv (.tmp 11), none⟩,
     ⟨(some 52), .call 50 [(.tmp 50), (.tmp 51)], none⟩,
     ⟨(some 11), .mv (.tmp 52), none⟩] [1, 2, 6, 7, 9, 10, 11])
 (.seq (.seq (.reg [
     ⟨(some 53), .mv (.tmp 11), none⟩,
     ⟨(some 54), .bin .lss (.tmp 53) (.const (.int .i64 0)), none⟩,
     ⟨(some 55), .mv (.tmp 54), none⟩,
     ⟨(some 56), .mv (.tmp 9), (some (55, false))⟩,
     ⟨(some 57), .mv (.tmp 6), (some (55, false))⟩,
     ⟨(some 58), .call 19 [(.tmp 56), (.tmp 57)], (some (55, false))⟩,
     ⟨(some 59), .un .not (.tmp 58), (some (55, false))⟩,
     ⟨(some 60), .pick (.tmp 55) (.const (.bool true)) (.tmp 59), none⟩,
     ⟨(some 61), .mv (.tmp 60), none⟩,
     ⟨(some 62), .mv (.tmp 10), (some (61, false))⟩,
     ⟨(some 63), .mv (.tmp 7), (some (61, false))⟩,
     ⟨(some 64), .bin .neq (.tmp 62) (.tmp 63), (some (61, false))⟩,
     ⟨(some 65), .pick (.tmp 61) (.const (.bool true)) (.tmp 64), none⟩] [1, 2, 6, 7, 9, 65])
 (.cond (.tmp 65)
  (.seq (.reg [
      ⟨(some 4), .mv (.const (.bool false)), none⟩] [4])
  (.ret))
  (.skip)))
 (.seq (.reg [
     ⟨(some 12), .mv (.const (.int .i64 1)), none⟩] [1, 2, 6, 7, 9, 12])
 (.seq (.reg [
     ⟨(some 66), .mv (.tmp 9), none⟩,
     ⟨(some 67), .mv (.tmp 12), none⟩,
     ⟨(some 68), .call 22 [(.tmp 66), (.tmp 67)], none⟩,
     ⟨(some 12), .mv (.tmp 68), none⟩] [1, 2, 6, 7, 9, 12])
 (.seq (.reg [
     ⟨(some 13), .mv (.const (.int .i64 1)), none⟩] [1, 2, 6, 7, 9, 12, 13])
 (.seq (.reg [
     ⟨(some 69), .mv (.tmp 9), none⟩,
     ⟨(some 70), .mv (.tmp 13), none⟩,
     ⟨(some 71), .call 23 [(.tmp 69), (.tmp 70)], none⟩,
     ⟨(some 13), .mv (.tmp 71), none⟩] [1, 2, 6, 7, 9, 12, 13])
 (.seq (.seq (.reg [
     ⟨(some 72), .mv (.tmp 13), none⟩,
     ⟨(some 73), .bin .lss (.tmp 72) (.const (.int .i64 0)), none⟩] [1, 2, 6, 7, 9, 12, 13, 73])
 (.cond (.tmp 73)
  (.seq (.reg [
      ⟨(some 4), .mv (.const (.bool false)), none⟩] [4])
  (.ret))
  (.skip)))
 (.seq (.seq (.reg [
     ⟨(some 74), .mv (.tmp 13), none⟩,
     ⟨(some 75), .mv (.tmp 12), none⟩,
     ⟨(some 76), .bin .neq (.tmp 74) (.tmp 75), none⟩] [1, 2, 6, 7, 9, 12, 76])
 (.cond (.tmp 76)
  (.seq (.reg [
      ⟨(some 4), .mv (.const (.bool false)), none⟩] [4])
  (.ret))
  (.skip)))
 (.seq (.reg [
     ⟨(some 78), .load 2 true (.tmp 2), none⟩,
     ⟨(some 79), .call 33 [(.tmp 78)], none⟩,
     ⟨(some 80), .mv (.tmp 1), none⟩,
     ⟨(some 81), .call 54 [(.tmp 79), (.tmp 80)], none⟩,
     ⟨(some 77), .mv (.tmp 81), none⟩,
     ⟨(some 82), .ext (.tmp 77) 0, none⟩,
     ⟨(some 83), .ext (.tmp 77) 1, none⟩,
     ⟨(some 14), .mv (.tmp 82), none⟩,
     ⟨(some 15), .mv (.tmp 83), none⟩] [6, 7, 9, 12, 14, 15])
 (.seq (.seq (.reg [
     ⟨(some 84), .mv (.tmp 14), none⟩,
     ⟨(some 85), .mv (.tmp 6), none⟩,
     ⟨(some 86), .call 19 [(.tmp 84), (.tmp 85)], none⟩,
     ⟨(some 87), .un .not (.tmp 86), none⟩,
     ⟨(some 88), .mv (.tmp 87), none⟩,
     ⟨(some 89), .mv (.tmp 15), (some (88, false))⟩,
     ⟨(some 90), .mv (.tmp 7), (some (88, false))⟩,
     ⟨(some 91), .bin .neq (.tmp 89) (.tmp 90), (some (88, false))⟩,
     ⟨(some 92), .pick (.tmp 88) (.const (.bool true)) (.tmp 91), none⟩] [9, 12, 92])
 (.cond (.tmp 92)
  (.seq (.reg [
      ⟨(some 4), .mv (.const (.bool false)), none⟩] [4])
  (.ret))
  (.skip)))
 (.seq (.reg [
     ⟨(some 13), .mv (.const (.int .i64 1)), none⟩] [9, 12, 13])
 (.seq (.reg [
     ⟨(some 93), .mv (.tmp 9), none⟩,
     ⟨(some 94), .mv (.tmp 13), none⟩,
     ⟨(some 95), .call 23 [(.tmp 93), (.tmp 94)], none⟩,
     ⟨(some 13), .mv (.tmp 95), none⟩] [12, 13])
 (.seq (.seq (.reg [
     ⟨(some 96), .mv (.tmp 13), none⟩,
     ⟨(some 97), .bin .lss (.tmp 96) (.const (.int .i64 0)), none⟩] [12, 13, 97])
 (.cond (.tmp 97)
  (.seq (.reg [
      ⟨(some 4), .mv (.const (.bool false)), none⟩] [4])
  (.ret))
  (.skip)))
 (.seq (.seq (.reg [
     ⟨(some 98), .mv (.tmp 13), none⟩,
     ⟨(some 99), .mv (.tmp 12), none⟩,
     ⟨(some 100), .bin .neq (.tmp 98) (.tmp 99), none⟩] [100])
 (.cond (.tmp 100)
  (.seq (.reg [
      ⟨(some 4), .mv (.const (.bool false)), none⟩] [4])
  (.ret))
  (.skip)))
 (.seq (.reg [
     ⟨(some 4), .mv (.const (.bool true)), none⟩] [4])
 (.ret)))))))))))))))))))))))))
theorem s_laws_FnExactLambdasOf : stripF Try.prog 13 [[1, 2], [1, 2, 5], [1, 2, 5], [1, 2, 20], [4], [1, 2, 6, 7], [1, 2, 6, 7, 8], [1, 2, 6, 7, 8, 9, 10], [1, 2, 6, 7, 8, 9, 10, 44], [4], [1, 2, 6, 7, 8, 9, 10, 49], [4], [1, 2, 6, 7, 8, 9, 10, 11], [1, 2, 6, 7, 9, 10, 11], [1, 2, 6, 7, 9, 65], [4], [1, 2, 6, 7, 9, 12], [1, 2, 6, 7, 9, 12], [1, 2, 6, 7, 9, 12, 13], [1, 2, 6, 7, 9, 12, 13], [1, 2, 6, 7, 9, 12, 13, 73], [4], [1, 2, 6, 7, 9, 12, 76], [4], [6, 7, 9, 12, 14, 15], [9, 12, 92], [4], [9, 12, 13], [12, 13], [12, 13, 97], [4], [100], [4], [4]] = some (c_laws_FnExactLambdasOf, [.tmp 4], 101) := by kernel_rfl

/-- loop.example/g00920/spec.TIndex -/
abbrev f_spec_TIndex : Nat := 46
def c_spec_TIndex : SC :=
 .seq (.reg [
     ⟨(some 2), .box 48 (.tmp 0), none⟩,
     ⟨(some 4), .mv (.const (.int .i64 0)), none⟩,
     ⟨(some 5), .mv (.const (.int .i64 0)), none⟩] [1, 2])
 (.seq (.seq (.reg [
     ⟨(some 6), .call 91 [(.tmp 2)], none⟩,
     ⟨(some 7), .un .not (.tmp 6), none⟩] [1, 2, 7])
 (.cond (.tmp 7)
  (.seq (.reg [
      ⟨(some 4), .mv (.const (.int .i64 0)), none⟩,
      ⟨(some 5), .mv (.const (.int .i64 1)), none⟩] [4, 5])
  (.ret))
  (.skip)))
 (.seq (.seq (.reg [
     ⟨(some 8), .mv (.tmp 1), none⟩,
     ⟨(some 9), .call 58 [(.tmp 8), (.const (.int .i64 0)), (.const (.int .i64 3))], none⟩,
     ⟨(some 10), .un .not (.tmp 9), none⟩] [1, 2, 10])
 (.cond (.tmp 10)
  (.seq (.reg [
      ⟨(some 4), .mv (.const (.int .i64 0)), none⟩,
      ⟨(some 5), .mv (.const (.int .i64 2)), none⟩] [4, 5])
  (.ret))
  (.skip)))
 (.seq (.reg [
     ⟨(some 11), .mv (.tmp 1), none⟩,
     ⟨(some 12), .call 92 [(.tmp 2), (.tmp 11)], none⟩,
     ⟨(some 4), .mv (.tmp 12), none⟩,
     ⟨(some 5), .mv (.const (.int .i64 0)), none⟩] [4, 5])
 (.ret))))
theorem s_spec_TIndex : stripF Try.prog 46 [[1, 2], [1, 2, 7], [4, 5], [1, 2, 10], [4, 5], [4, 5]] = some (c_spec_TIndex, [.tmp 4, .tmp 5], 13) := by kernel_rfl

/-- loop.example/g00920/impl.TIndex -/
abbrev f_impl_TIndex : Nat := 47
def c_impl_TIndex : SC :=
 .seq (.reg [
     ⟨(some 2), .box 48 (.tmp 0), none⟩,
     ⟨(some 4), .mv (.const (.int .i64 0)), none⟩,
     ⟨(some 5), .mv (.const (.int .i64 0)), none⟩] [1, 2])
 (.seq (.seq (.reg [
     ⟨(some 6), .load 2 true (.tmp 2), none⟩,
     ⟨(some 7), .call 76 [(.tmp 6)], none⟩,
     ⟨(some 8), .un .not (.tmp 7), none⟩] [1, 2, 8])
 (.cond (.tmp 8)
  (.seq (.reg [
      ⟨(some 4), .mv (.const (.int .i64 0)), none⟩,
      ⟨(some 5), .mv (.const (.int .i64 1)), none⟩] [4, 5])
  (.ret))
  (.skip)))
 (.seq (.seq (.reg [
     ⟨(some 9), .mv (.tmp 1), none⟩,
     ⟨(some 10), .call 61 [(.tmp 9), (.const (.int .i64 0)), (.const (.int .i64 3))], none⟩,
     ⟨(some 11), .un .not (.tmp 10), none⟩] [1, 2, 11])
 (.cond (.tmp 11)
  (.seq (.reg [
      ⟨(some 4), .mv (.const (.int .i64 0)), none⟩,
      ⟨(some 5), .mv (.const (.int .i64 2)), none⟩] [4, 5])
  (.ret))
  (.skip)))
 (.seq (.reg [
     ⟨(some 12), .load 2 true (.tmp 2), none⟩,
     ⟨(some 13), .mv (.tmp 1), none⟩,
     ⟨(some 14), .call 93 [(.tmp 12), (.tmp 13)], none⟩,
     ⟨(some 4), .mv (.tmp 14), none⟩,
     ⟨(some 5), .mv (.const (.int .i64 0)), none⟩] [4, 5])
 (.ret))))
theorem s_impl_TIndex : stripF Try.prog 47 [[1, 2], [1, 2, 8], [4, 5], [1, 2, 11], [4, 5], [4, 5]] = some (c_impl_TIndex, [.tmp 4, .tmp 5], 15) := by kernel_rfl

/-- loop.example/g00920/spec.LambdasOf -/
abbrev f_spec_LambdasOf : Nat := 53
def c_spec_LambdasOf : SC :=
 .seq (.reg [
     ⟨(some 2), .box 48 (.tmp 0), none⟩,
     ⟨(some 4), .mv (.const (.slice none 0 0)), none⟩,
     ⟨(some 5), .mv (.const (.int .i64 0)), none⟩] [1, 2])
 (.seq (.seq (.reg [
     ⟨(some 8), .call 91 [(.tmp 2)], none⟩,
     ⟨(some 9), .un .not (.tmp 8), none⟩] [1, 2, 9])
 (.cond (.tmp 9)
  (.seq (.reg [
      ⟨(some 4), .mv (.const (.slice none 0 0)), none⟩,
      ⟨(some 5), .mv (.const (.int .i64 1)), none⟩] [4, 5])
  (.ret))
  (.skip)))
 (.seq (.seq (.reg [
     ⟨(some 10), .mv (.tmp 1), none⟩,
     ⟨(some 11), .call 58 [(.tmp 10), (.const (.int .i64 0)), (.const (.int .i64 3))], none⟩,
     ⟨(some 12), .un .not (.tmp 11), none⟩] [1, 2, 12])
 (.cond (.tmp 12)
  (.seq (.reg [
      ⟨(some 4), .mv (.const (.slice none 0 0)), none⟩,
      ⟨(some 5), .mv (.const (.int .i64 2)), none⟩] [4, 5])
  (.ret))
  (.skip)))
 (.seq (.seq (.reg [
     ⟨(some 13), .mv (.tmp 1), none⟩,
     ⟨(some 14), .call 92 [(.tmp 2), (.tmp 13)], none⟩,
     ⟨(some 15), .bin .eql (.tmp 14) (.const (.int .i64 0)), none⟩] [1, 2, 15])
 (.cond (.tmp 15)
  (.seq (.reg [
      ⟨(some 4), .mv (.const (.slice none 0 0)), none⟩,
      ⟨(some 5), .mv (.const (.int .i64 6)), none⟩] [4, 5])
  (.ret))
  (.skip)))
 (.seq (.reg [
     ⟨(some 16), .bslice 2 1 0 [] [], none⟩,
     ⟨(some 6), .mv (.tmp 16), none⟩] [1, 2, 6])
 (.seq (.seq (.reg [
     ⟨(some 7), .mv (.const (.int .i64 0)), none⟩] [1, 2, 6, 7])
 (.block 0 (.loop [1, 2, 6, 7]
   (.seq (.seq (.reg [
       ⟨(some 17), .mv (.tmp 7), none⟩,
       ⟨(some 18), .mv (.tmp 1), none⟩,
       ⟨(some 19), .bin .leq (.tmp 17) (.tmp 18), none⟩] [1, 2, 6, 7, 19])
   (.cond (.tmp 19)
    (.skip)
    (.exit 0)))
   (.seq (.block 1 (.reg [
        ⟨(some 22), .mv (.tmp 6), none⟩,
        ⟨(some 23), .mv (.tmp 7), none⟩,
        ⟨(some 24), .call 92 [(.tmp 2), (.tmp 23)], none⟩,
        ⟨(some 25), .bslice 2 1 1 [(.int .i64 0)] [(0, (.tmp 24))], none⟩,
        ⟨(some 26), .app 2 1 8 (.tmp 22) (.tmp 25), none⟩,
        ⟨(some 6), .mv (.tmp 26), none⟩] [1, 2, 6, 7]))
   (.reg [
       ⟨(some 20), .mv (.tmp 7), none⟩,
       ⟨(some 21), .bin .add (.tmp 20) (.const (.int .i64 1)), none⟩,
       ⟨(some 7), .mv (.tmp 21), none⟩] [1, 2, 6, 7]))))))
 (.seq (.reg [
     ⟨(some 27), .mv (.tmp 6), none⟩,
     ⟨(some 4), .mv (.tmp 27), none⟩,
     ⟨(some 5), .mv (.const (.int .i64 0)), none⟩] [4, 5])
 (.ret)))))))
theorem s_spec_LambdasOf : stripF Try.prog 53 [[1, 2], [1, 2, 9], [4, 5], [1, 2, 12], [4, 5], [1, 2, 15], [4, 5], [1, 2, 6], [1, 2, 6, 7], [1, 2, 6, 7], [1, 2, 6, 7, 19], [1, 2, 6, 7], [1, 2, 6, 7], [4, 5]] = some (c_spec_LambdasOf, [.tmp 4, .tmp 5], 28) := by kernel_rfl

/-- loop.example/g00920/impl.LambdasOf -/
abbrev f_impl_LambdasOf : Nat := 54
def c_impl_LambdasOf : SC :=
 .seq (.reg [
     ⟨(some 2), .box 48 (.tmp 0), none⟩,
     ⟨(some 4), .mv (.const (.slice none 0 0)), none⟩,
     ⟨(some 5), .mv (.const (.int .i64 0)), none⟩] [1, 2])
 (.seq (.reg [
     ⟨(some 11), .load 2 true (.tmp 2), none⟩,
     ⟨(some 12), .mv (.tmp 1), none⟩,
     ⟨(some 13), .call 47 [(.tmp 11), (.tmp 12)], none⟩,
     ⟨(some 10), .mv (.tmp 13), none⟩,
     ⟨(some 14), .ext (.tmp 10) 0, none⟩,
     ⟨(some 15), .ext (.tmp 10) 1, none⟩,
     ⟨(some 6), .mv (.tmp 14), none⟩,
     ⟨(some 7), .mv (.tmp 15), none⟩] [1, 2, 6, 7])
 (.seq (.seq (.reg [
     ⟨(some 16), .mv (.tmp 7), none⟩,
     ⟨(some 17), .bin .neq (.tmp 16) (.const (.int .i64 0)), none⟩] [1, 2, 6, 7, 17])
 (.cond (.tmp 17)
  (.seq (.reg [
      ⟨(some 18), .mv (.tmp 7), none⟩,
      ⟨(some 4), .mv (.const (.slice none 0 0)), none⟩,
      ⟨(some 5), .mv (.tmp 18), none⟩] [4, 5])
  (.ret))
  (.skip)))
 (.seq (.seq (.reg [
     ⟨(some 19), .mv (.tmp 6), none⟩,
     ⟨(some 20), .bin .eql (.tmp 19) (.const (.int .i64 0)), none⟩] [1, 2, 20])
 (.cond (.tmp 20)
  (.seq (.reg [
      ⟨(some 4), .mv (.const (.slice none 0 0)), none⟩,
      ⟨(some 5), .mv (.const (.int .i64 6)), none⟩] [4, 5])
  (.ret))
  (.skip)))
 (.seq (.reg [
     ⟨(some 8), .mv (.const (.slice none 0 0)), none⟩] [1, 2, 8])
 (.seq (.seq (.reg [
     ⟨(some 21), .mv (.tmp 1), none⟩,
     ⟨(some 22), .bin .add (.tmp 21) (.const (.int .i64 1)), none⟩,
     ⟨(some 23), .mv (.const (.int .i64 0)), none⟩] [2, 8, 22, 23])
 (.block 0 (.loop [2, 8, 22, 23]
   (.seq (.reg [
       ⟨(some 24), .bin .lss (.tmp 23) (.tmp 22), none⟩] [2, 8, 22, 23, 24])
   (.seq (.cond (.tmp 24)
    (.skip)
    (.exit 0))
   (.seq (.block 1 (.seq (.reg [
        ⟨(some 25), .mv (.tmp 23), none⟩,
        ⟨(some 9), .mv (.tmp 25), none⟩] [2, 8, 9, 22, 23])
    (.reg [
        ⟨(some 26), .mv (.tmp 8), none⟩,
        ⟨(some 27), .load 2 true (.tmp 2), none⟩,
        ⟨(some 28), .mv (.tmp 9), none⟩,
        ⟨(some 29), .call 93 [(.tmp 27), (.tmp 28)], none⟩,
        ⟨(some 30), .bslice 2 1 1 [(.int .i64 0)] [(0, (.tmp 29))], none⟩,
        ⟨(some 31), .app 2 1 8 (.tmp 26) (.tmp 30), none⟩,
        ⟨(some 8), .mv (.tmp 31), none⟩] [2, 8, 22, 23])))
   (.reg [
       ⟨(some 32), .bin .add (.tmp 23) (.const (.int .i64 1)), none⟩,
       ⟨(some 23), .mv (.tmp 32), none⟩] [2, 8, 22, 23])))))))
 (.seq (.reg [
     ⟨(some 33), .mv (.tmp 8), none⟩,
     ⟨(some 4), .mv (.tmp 33), none⟩,
     ⟨(some 5), .mv (.const (.int .i64 0)), none⟩] [4, 5])
 (.ret)))))))
theorem s_impl_LambdasOf : stripF Try.prog 54 [[1, 2], [1, 2, 6, 7], [1, 2, 6, 7, 17], [4, 5], [1, 2, 20], [4, 5], [1, 2, 8], [2, 8, 22, 23], [2, 8, 22, 23], [2, 8, 22, 23, 24], [2, 8, 9, 22, 23], [2, 8, 22, 23], [2, 8, 22, 23], [4, 5]] = some (c_impl_LambdasOf, [.tmp 4, .tmp 5], 34) := by kernel_rfl


def tiV (v : Int) (xss : List (List Int)) (t : Int) : Int × Int := if !designB v xss then (0, 1) else if !(decide (0 ≤ t) && decide (t ≤ 3)) then (0, 2) else (tIdx v.toNat xss t.toNat, 0)
theorem implTIndex_fn (v : Int) (xss : List (List Int)) (t : Int) : PFn Try.prog f_impl_TIndex [.agg [I v, ilSS xss], I t] (.tup [I (tiV v xss t).1, I (tiV v xss t).2]) := by
  have hv := ValidDesign_fn v xss
  intro H; refine ACalls.introB s_impl_TIndex (by simp) ?_; intro hB hA; unfold c_impl_TIndex; simp (config := { maxSteps := 1000000 }) (disch := (first | omega | (simp only [go_sem]; try omega))) only [go_sem, Nat.reduceAdd, Nat.reduceEqDiff, Nat.reduceLeDiff, Nat.reduceMul, Nat.reduceLT, reduceIte, Int.reduceToNat, w64_id, cast_succ]
  repeat (first | (with_reducible first | refine SW.seq ?_ | refine SW.block ?_ | refine SW.rowC ?_ | refine SW.skip ?_ | refine SW.exit ?_ | refine PFn.use (hv) ?_ | refine PFn.useq (hv) ?_ | intro _ | refine And.intro (by omega) ?_) | simp (config := { maxSteps := 1000000 }) (disch := (first | omega | (simp only [go_sem]; try omega))) only [go_sem, Nat.reduceAdd, Nat.reduceEqDiff, Nat.reduceLeDiff, Nat.reduceMul, Nat.reduceLT, reduceIte, Int.reduceToNat, w64_id, cast_succ])
  (first | refine SW.condD rfl (fun h => ?_) (fun h => ?_) | refine SW.condN rfl (fun h => ?_) (fun h => ?_) | refine SW.condNB rfl (fun h => ?_) (fun h => ?_) | refine SW.condB rfl (fun h => ?_) (fun h => ?_))
  · rw [tiV, h]
    repeat (first | (with_reducible first | refine SW.seq ?_ | refine SW.block ?_ | refine SW.rowC ?_ | refine SW.skip ?_ | refine SW.exit ?_ | intro _ | refine And.intro (by omega) ?_) | simp (config := { maxSteps := 1000000 }) (disch := (first | omega | (simp only [go_sem]; try omega))) only [go_sem, Nat.reduceAdd, Nat.reduceEqDiff, Nat.reduceLeDiff, Nat.reduceMul, Nat.reduceLT, reduceIte, Int.reduceToNat, w64_id, cast_succ])
    refine SW.ret ?_; (try simp only [go_sem]); (first | refine FunPost.one ?_ | refine FunPost.two ?_ | refine FunPost.three ?_); (try simp (config := { maxSteps := 1000000 }) (disch := (first | omega | (simp only [go_sem]; try omega))) only [go_sem, Nat.reduceAdd, Nat.reduceEqDiff, Nat.reduceLeDiff, Nat.reduceMul, Nat.reduceLT, reduceIte, Int.reduceToNat, w64_id, cast_succ]); (first | (with_reducible refine GR.drop ?_ ?_; (simp only [go_sem, and_self, and_true, true_and, implies_true, List.take_succ_cons, List.take_zero])) | refine GR.of ?_); refine ⟨?_, rfl⟩; (try with_reducible rfl)
  · have hf := designB_facts h
    obtain ⟨n, rfl⟩ := Int.eq_ofNat_of_zero_le (show 0 ≤ v by omega)
    rw [tiV, h]
    repeat (first | (with_reducible first | refine SW.seq ?_ | refine SW.block ?_ | refine SW.rowC ?_ | refine SW.skip ?_ | refine SW.exit ?_ | refine PFn.use (within_fn _ _ _) ?_ | refine PFn.useq (within_fn _ _ _) ?_ | intro _ | refine And.intro (by omega) ?_) | simp (config := { maxSteps := 1000000 }) (disch := (first | omega | (simp only [go_sem]; try omega))) only [go_sem, Nat.reduceAdd, Nat.reduceEqDiff, Nat.reduceLeDiff, Nat.reduceMul, Nat.reduceLT, reduceIte, Int.reduceToNat, w64_id, cast_succ])
    (first | refine SW.condD rfl (fun h2 => ?_) (fun h2 => ?_) | refine SW.condN rfl (fun h2 => ?_) (fun h2 => ?_) | refine SW.condNB rfl (fun h2 => ?_) (fun h2 => ?_) | refine SW.condB rfl (fun h2 => ?_) (fun h2 => ?_))
    · rw [h2]
      repeat (first | (with_reducible first | refine SW.seq ?_ | refine SW.block ?_ | refine SW.rowC ?_ | refine SW.skip ?_ | refine SW.exit ?_ | intro _ | refine And.intro (by omega) ?_) | simp (config := { maxSteps := 1000000 }) (disch := (first | omega | (simp only [go_sem]; try omega))) only [go_sem, Nat.reduceAdd, Nat.reduceEqDiff, Nat.reduceLeDiff, Nat.reduceMul, Nat.reduceLT, reduceIte, Int.reduceToNat, w64_id, cast_succ])
      refine SW.ret ?_; (try simp only [go_sem]); (first | refine FunPost.one ?_ | refine FunPost.two ?_ | refine FunPost.three ?_); (try simp (config := { maxSteps := 1000000 }) (disch := (first | omega | (simp only [go_sem]; try omega))) only [go_sem, Nat.reduceAdd, Nat.reduceEqDiff, Nat.reduceLeDiff, Nat.reduceMul, Nat.reduceLT, reduceIte, Int.reduceToNat, w64_id, cast_succ]); (first | (with_reducible refine GR.drop ?_ ?_; (simp only [go_sem, and_self, and_true, true_and, implies_true, List.take_succ_cons, List.take_zero])) | refine GR.of ?_); refine ⟨?_, rfl⟩; (try with_reducible rfl)
    · rw [h2]
      simp only [Bool.and_eq_true, decide_eq_true_eq] at h2
      obtain ⟨m, rfl⟩ := Int.eq_ofNat_of_zero_le h2.1
      repeat (first | (with_reducible first | refine SW.seq ?_ | refine SW.block ?_ | refine SW.rowC ?_ | refine SW.skip ?_ | refine SW.exit ?_ | refine PFn.use (implTIdx_fn n xss m (by omega) (by omega) (by omega)) ?_ | refine PFn.useq (implTIdx_fn n xss m (by omega) (by omega) (by omega)) ?_ | intro _ | refine And.intro (by omega) ?_) | simp (config := { maxSteps := 1000000 }) (disch := (first | omega | (simp only [go_sem]; try omega))) only [go_sem, Nat.reduceAdd, Nat.reduceEqDiff, Nat.reduceLeDiff, Nat.reduceMul, Nat.reduceLT, reduceIte, Int.reduceToNat, w64_id, cast_succ])
      refine SW.ret ?_; (try simp only [go_sem]); (first | refine FunPost.one ?_ | refine FunPost.two ?_ | refine FunPost.three ?_); (try simp (config := { maxSteps := 1000000 }) (disch := (first | omega | (simp only [go_sem]; try omega))) only [go_sem, Nat.reduceAdd, Nat.reduceEqDiff, Nat.reduceLeDiff, Nat.reduceMul, Nat.reduceLT, reduceIte, Int.reduceToNat, w64_id, cast_succ]); (first | (with_reducible refine GR.drop ?_ ?_; (simp only [go_sem, and_self, and_true, true_and, implies_true, List.take_succ_cons, List.take_zero])) | refine GR.of ?_); refine ⟨?_, rfl⟩; (try with_reducible rfl)
theorem specTIndex_fn (v : Int) (xss : List (List Int)) (t : Int) (hx : ∀ xs ∈ xss, ∀ x ∈ xs, (Lit.int .i64 x).wf = true) : PFn Try.prog f_spec_TIndex [.agg [I v, ilSS xss], I t] (.tup [I (tiV v xss t).1, I (tiV v xss t).2]) := by
  intro H; refine ACalls.introB s_spec_TIndex (by simp) ?_; intro hB hA; unfold c_spec_TIndex; simp (config := { maxSteps := 1000000 }) (disch := (first | omega | (simp only [go_sem]; try omega))) only [go_sem, Nat.reduceAdd, Nat.reduceEqDiff, Nat.reduceLeDiff, Nat.reduceMul, Nat.reduceLT, reduceIte, Int.reduceToNat, w64_id, cast_succ]
  repeat (first | (with_reducible first | refine SW.seq ?_ | refine SW.block ?_ | refine SW.rowC ?_ | refine SW.skip ?_ | refine SW.exit ?_ | intro _ | refine And.intro (by omega) ?_) | simp (config := { maxSteps := 1000000 }) (disch := (first | omega | (simp only [go_sem]; try omega))) only [go_sem, Nat.reduceAdd, Nat.reduceEqDiff, Nat.reduceLeDiff, Nat.reduceMul, Nat.reduceLT, reduceIte, Int.reduceToNat, w64_id, cast_succ])
  refine ACalls.fn (l10Ok_ok _ H.length 0 v xss hx (by simp)) ?_
  repeat (first | (with_reducible first | refine SW.seq ?_ | refine SW.block ?_ | refine SW.rowC ?_ | refine SW.skip ?_ | refine SW.exit ?_ | intro _ | refine And.intro (by omega) ?_) | simp (config := { maxSteps := 1000000 }) (disch := (first | omega | (simp only [go_sem]; try omega))) only [go_sem, Nat.reduceAdd, Nat.reduceEqDiff, Nat.reduceLeDiff, Nat.reduceMul, Nat.reduceLT, reduceIte, Int.reduceToNat, w64_id, cast_succ])
  (first | refine SW.condD rfl (fun h => ?_) (fun h => ?_) | refine SW.condN rfl (fun h => ?_) (fun h => ?_) | refine SW.condNB rfl (fun h => ?_) (fun h => ?_) | refine SW.condB rfl (fun h => ?_) (fun h => ?_))
  · rw [tiV, h]
    repeat (first | (with_reducible first | refine SW.seq ?_ | refine SW.block ?_ | refine SW.rowC ?_ | refine SW.skip ?_ | refine SW.exit ?_ | intro _ | refine And.intro (by omega) ?_) | simp (config := { maxSteps := 1000000 }) (disch := (first | omega | (simp only [go_sem]; try omega))) only [go_sem, Nat.reduceAdd, Nat.reduceEqDiff, Nat.reduceLeDiff, Nat.reduceMul, Nat.reduceLT, reduceIte, Int.reduceToNat, w64_id, cast_succ])
    refine SW.ret ?_; (try simp only [go_sem]); (first | refine FunPost.one ?_ | refine FunPost.two ?_ | refine FunPost.three ?_); (try simp (config := { maxSteps := 1000000 }) (disch := (first | omega | (simp only [go_sem]; try omega))) only [go_sem, Nat.reduceAdd, Nat.reduceEqDiff, Nat.reduceLeDiff, Nat.reduceMul, Nat.reduceLT, reduceIte, Int.reduceToNat, w64_id, cast_succ]); (first | (with_reducible refine GR.drop ?_ ?_; (simp only [go_sem, and_self, and_true, true_and, implies_true, List.take_succ_cons, List.take_zero])) | refine GR.of ?_); refine ⟨?_, rfl⟩; (try with_reducible rfl)
  · have hf := designB_facts h
    obtain ⟨n, rfl⟩ := Int.eq_ofNat_of_zero_le (show 0 ≤ v by omega)
    rw [tiV, h]
    repeat (first | (with_reducible first | refine SW.seq ?_ | refine SW.block ?_ | refine SW.rowC ?_ | refine SW.skip ?_ | refine SW.exit ?_ | refine PFn.use (l00In_fn _ _ _) ?_ | refine PFn.useq (l00In_fn _ _ _) ?_ | intro _ | refine And.intro (by omega) ?_) | simp (config := { maxSteps := 1000000 }) (disch := (first | omega | (simp only [go_sem]; try omega))) only [go_sem, Nat.reduceAdd, Nat.reduceEqDiff, Nat.reduceLeDiff, Nat.reduceMul, Nat.reduceLT, reduceIte, Int.reduceToNat, w64_id, cast_succ])
    (first | refine SW.condD rfl (fun h2 => ?_) (fun h2 => ?_) | refine SW.condN rfl (fun h2 => ?_) (fun h2 => ?_) | refine SW.condNB rfl (fun h2 => ?_) (fun h2 => ?_) | refine SW.condB rfl (fun h2 => ?_) (fun h2 => ?_))
    · rw [h2]
      repeat (first | (with_reducible first | refine SW.seq ?_ | refine SW.block ?_ | refine SW.rowC ?_ | refine SW.skip ?_ | refine SW.exit ?_ | intro _ | refine And.intro (by omega) ?_) | simp (config := { maxSteps := 1000000 }) (disch := (first | omega | (simp only [go_sem]; try omega))) only [go_sem, Nat.reduceAdd, Nat.reduceEqDiff, Nat.reduceLeDiff, Nat.reduceMul, Nat.reduceLT, reduceIte, Int.reduceToNat, w64_id, cast_succ])
      refine SW.ret ?_; (try simp only [go_sem]); (first | refine FunPost.one ?_ | refine FunPost.two ?_ | refine FunPost.three ?_); (try simp (config := { maxSteps := 1000000 }) (disch := (first | omega | (simp only [go_sem]; try omega))) only [go_sem, Nat.reduceAdd, Nat.reduceEqDiff, Nat.reduceLeDiff, Nat.reduceMul, Nat.reduceLT, reduceIte, Int.reduceToNat, w64_id, cast_succ]); (first | (with_reducible refine GR.drop ?_ ?_; (simp only [go_sem, and_self, and_true, true_and, implies_true, List.take_succ_cons, List.take_zero])) | refine GR.of ?_); refine ⟨?_, rfl⟩; (try with_reducible rfl)
    · rw [h2]
      simp only [Bool.and_eq_true, decide_eq_true_eq] at h2
      obtain ⟨m, rfl⟩ := Int.eq_ofNat_of_zero_le h2.1
      repeat (first | (with_reducible first | refine SW.seq ?_ | refine SW.block ?_ | refine SW.rowC ?_ | refine SW.skip ?_ | refine SW.exit ?_ | intro _ | refine And.intro (by omega) ?_) | simp (config := { maxSteps := 1000000 }) (disch := (first | omega | (simp only [go_sem]; try omega))) only [go_sem, Nat.reduceAdd, Nat.reduceEqDiff, Nat.reduceLeDiff, Nat.reduceMul, Nat.reduceLT, reduceIte, Int.reduceToNat, w64_id, cast_succ])
      refine ACalls.fn (l26Index_ok _ H.length n xss m (by omega) (by omega) (by omega) (by simp)) ?_
      repeat (first | (with_reducible first | refine SW.seq ?_ | refine SW.block ?_ | refine SW.rowC ?_ | refine SW.skip ?_ | refine SW.exit ?_ | intro _ | refine And.intro (by omega) ?_) | simp (config := { maxSteps := 1000000 }) (disch := (first | omega | (simp only [go_sem]; try omega))) only [go_sem, Nat.reduceAdd, Nat.reduceEqDiff, Nat.reduceLeDiff, Nat.reduceMul, Nat.reduceLT, reduceIte, Int.reduceToNat, w64_id, cast_succ])
      refine SW.ret ?_; (try simp only [go_sem]); (first | refine FunPost.one ?_ | refine FunPost.two ?_ | refine FunPost.three ?_); (try simp (config := { maxSteps := 1000000 }) (disch := (first | omega | (simp only [go_sem]; try omega))) only [go_sem, Nat.reduceAdd, Nat.reduceEqDiff, Nat.reduceLeDiff, Nat.reduceMul, Nat.reduceLT, reduceIte, Int.reduceToNat, w64_id, cast_succ]); (first | (with_reducible refine GR.drop ?_ ?_; (simp only [go_sem, and_self, and_true, true_and, implies_true, List.take_succ_cons, List.take_zero])) | refine GR.of ?_); refine ⟨?_, rfl⟩; (try with_reducible rfl)

theorem lawTIndex_ok (H : List Blk) (n : Int) (xss : List (List Int)) (t : Int) (hx : ∀ xs ∈ xss, ∀ x ∈ xs, (Lit.int .i64 x).wf = true) : ACalls Try.prog f_laws_FnExactTIndex [.agg [I n, ilSS xss], I t] H (fun r _ => r = Bv true) := by
  refine ACalls.introB s_laws_FnExactTIndex (by simp) ?_; intro hB hA; unfold c_laws_FnExactTIndex; simp (config := { maxSteps := 1000000 }) (disch := (first | omega | (simp only [go_sem]; try omega))) only [go_sem, Nat.reduceAdd, Nat.reduceEqDiff, Nat.reduceLeDiff, Nat.reduceMul, Nat.reduceLT, reduceIte, Int.reduceToNat, w64_id, cast_succ]
  repeat (first | (with_reducible first | refine SW.seq ?_ | refine SW.block ?_ | refine SW.rowC ?_ | refine SW.skip ?_ | refine SW.exit ?_ | intro _ | refine And.intro (by omega) ?_) | simp (config := { maxSteps := 1000000 }) (disch := (first | omega | (simp only [go_sem]; try omega))) only [go_sem, Nat.reduceAdd, Nat.reduceEqDiff, Nat.reduceLeDiff, Nat.reduceMul, Nat.reduceLT, reduceIte, Int.reduceToNat, w64_id, cast_succ])
  refine (szDesign_ok _ n _ xss _ rfl (rd_ilSS _ _) (by omega) (by omega)).mono ?_
  rintro r H' ⟨⟨z, rfl, g1, g2, g3⟩, rfl⟩
  repeat (first | (with_reducible first | refine SW.seq ?_ | refine SW.block ?_ | refine SW.rowC ?_ | refine SW.skip ?_ | refine SW.exit ?_ | intro _ | refine And.intro (by omega) ?_) | simp (config := { maxSteps := 1000000 }) (disch := (first | omega | (simp only [go_sem]; try omega))) only [go_sem, Nat.reduceAdd, Nat.reduceEqDiff, Nat.reduceLeDiff, Nat.reduceMul, Nat.reduceLT, reduceIte, Int.reduceToNat, w64_id, cast_succ])
  (first | refine SW.condD rfl (fun h2 => ?_) (fun h2 => ?_) | refine SW.condN rfl (fun h2 => ?_) (fun h2 => ?_) | refine SW.condNB rfl (fun h2 => ?_) (fun h2 => ?_) | refine SW.condB rfl (fun h2 => ?_) (fun h2 => ?_))
  · repeat (first | (with_reducible first | refine SW.seq ?_ | refine SW.block ?_ | refine SW.rowC ?_ | refine SW.skip ?_ | refine SW.exit ?_ | intro _ | refine And.intro (by omega) ?_) | simp (config := { maxSteps := 1000000 }) (disch := (first | omega | (simp only [go_sem]; try omega))) only [go_sem, Nat.reduceAdd, Nat.reduceEqDiff, Nat.reduceLeDiff, Nat.reduceMul, Nat.reduceLT, reduceIte, Int.reduceToNat, w64_id, cast_succ])
    refine SW.ret ?_; (try simp only [go_sem]); (first | refine FunPost.one ?_ | refine FunPost.two ?_ | refine FunPost.three ?_); (try simp (config := { maxSteps := 1000000 }) (disch := (first | omega | (simp only [go_sem]; try omega))) only [go_sem, Nat.reduceAdd, Nat.reduceEqDiff, Nat.reduceLeDiff, Nat.reduceMul, Nat.reduceLT, reduceIte, Int.reduceToNat, w64_id, cast_succ])
    exact GR.of rfl
  have hsx := small_rows (by omega) (g3 (by omega)) (by omega)
  have t1 := toDesign_fn n xss hsx.1 hsx.2
  have t2 := specTIndex_fn n xss t hx
  have t3 := implTIndex_fn n xss t
  generalize (tiV n xss t).1 = a at *
  generalize (tiV n xss t).2 = b at *
  repeat (first | (with_reducible first | refine SW.seq ?_ | refine SW.block ?_ | refine SW.rowC ?_ | refine SW.skip ?_ | refine SW.exit ?_ | refine PFn.use (t1) ?_ | refine PFn.useq (t1) ?_ | refine PFn.use (t2) ?_ | refine PFn.useq (t2) ?_ | refine PFn.use (t3) ?_ | refine PFn.useq (t3) ?_ | intro _ | refine And.intro (by omega) ?_) | simp (config := { maxSteps := 1000000 }) (disch := (first | omega | (simp only [go_sem]; try omega))) only [go_sem, Nat.reduceAdd, Nat.reduceEqDiff, Nat.reduceLeDiff, Nat.reduceMul, Nat.reduceLT, reduceIte, Int.reduceToNat, w64_id, cast_succ])
  refine SW.condF (by simp [go_sem]) ?_
  repeat (first | (with_reducible first | refine SW.seq ?_ | refine SW.block ?_ | refine SW.rowC ?_ | refine SW.skip ?_ | refine SW.exit ?_ | refine PFn.use (t1) ?_ | refine PFn.useq (t1) ?_ | refine PFn.use (eqDesign_fn2 n xss) ?_ | refine PFn.useq (eqDesign_fn2 n xss) ?_ | intro _ | refine And.intro (by omega) ?_) | simp (config := { maxSteps := 1000000 }) (disch := (first | omega | (simp only [go_sem]; try omega))) only [go_sem, Nat.reduceAdd, Nat.reduceEqDiff, Nat.reduceLeDiff, Nat.reduceMul, Nat.reduceLT, reduceIte, Int.reduceToNat, w64_id, cast_succ])
  refine SW.condF rfl ?_
  repeat (first | (with_reducible first | refine SW.seq ?_ | refine SW.block ?_ | refine SW.rowC ?_ | refine SW.skip ?_ | refine SW.exit ?_ | intro _ | refine And.intro (by omega) ?_) | simp (config := { maxSteps := 1000000 }) (disch := (first | omega | (simp only [go_sem]; try omega))) only [go_sem, Nat.reduceAdd, Nat.reduceEqDiff, Nat.reduceLeDiff, Nat.reduceMul, Nat.reduceLT, reduceIte, Int.reduceToNat, w64_id, cast_succ])
  refine SW.ret ?_; (try simp only [go_sem]); (first | refine FunPost.one ?_ | refine FunPost.two ?_ | refine FunPost.three ?_); (try simp (config := { maxSteps := 1000000 }) (disch := (first | omega | (simp only [go_sem]; try omega))) only [go_sem, Nat.reduceAdd, Nat.reduceEqDiff, Nat.reduceLeDiff, Nat.reduceMul, Nat.reduceLT, reduceIte, Int.reduceToNat, w64_id, cast_succ])
  exact GR.of rfl

def lamV (v : Int) (xss : List (List Int)) (t : Int) : List Int × Int := if (tiV v xss t).2 ≠ 0 then ([], (tiV v xss t).2) else if (tiV v xss t).1 = 0 then ([], 6) else ((List.range (t.toNat + 1)).map fun s => tIdx v.toNat xss s, 0)
theorem tiV_good {v : Int} {xss : List (List Int)} {t : Int} (h : (tiV v xss t).2 = 0) : designB v xss = true ∧ 0 ≤ t ∧ t ≤ 3 := by
  unfold tiV at h
  split at h
  · simp at h
  · rename_i h1
    split at h
    · simp at h
    · rename_i h2
      simp only [Bool.not_eq_true', Bool.not_eq_false, Bool.and_eq_true, decide_eq_true_eq, Bool.not_eq_true] at h1 h2
      exact ⟨h1, h2.1, h2.2⟩
theorem lamV_len (v : Int) (xss : List (List Int)) (t : Int) (_h : xss.length ≤ 1073741824) : (lamV v xss t).1.length ≤ 1073741824 := by
  unfold lamV
  split
  · simp
  · rename_i h
    split
    · simp
    · have := tiV_good (Decidable.not_not.1 h)
      simp; omega

theorem implLambdasOf_fs (v : Int) (xss : List (List Int)) (t : Int) (hx : ∀ xs ∈ xss, ∀ x ∈ xs, (Lit.int .i64 x).wf = true) : FS Try.prog f_impl_LambdasOf [.agg [I v, ilSS xss], I t] (lamV v xss t).1 (lamV v xss t).2 := by
  intro H
  have hv := implTIndex_fn v xss t
  have hgood := @tiV_good v xss t
  unfold lamV
  generalize (tiV v xss t).1 = a at *
  generalize (tiV v xss t).2 = b at *
  refine ACalls.introB s_impl_LambdasOf (by simp) ?_; intro hB hA; unfold c_impl_LambdasOf; simp (config := { maxSteps := 1000000 }) (disch := (first | omega | (simp only [go_sem]; try omega))) only [go_sem, Nat.reduceAdd, Nat.reduceEqDiff, Nat.reduceLeDiff, Nat.reduceMul, Nat.reduceLT, reduceIte, Int.reduceToNat, w64_id, cast_succ]
  repeat (first | (with_reducible first | refine SW.seq ?_ | refine SW.block ?_ | refine SW.rowC ?_ | refine SW.skip ?_ | refine SW.exit ?_ | refine PFn.use (hv) ?_ | refine PFn.useq (hv) ?_ | intro _ | refine And.intro (by omega) ?_) | simp (config := { maxSteps := 1000000 }) (disch := (first | omega | (simp only [go_sem]; try omega))) only [go_sem, Nat.reduceAdd, Nat.reduceEqDiff, Nat.reduceLeDiff, Nat.reduceMul, Nat.reduceLT, reduceIte, Int.reduceToNat, w64_id, cast_succ])
  (first | refine SW.condD rfl (fun h => ?_) (fun h => ?_) | refine SW.condN rfl (fun h => ?_) (fun h => ?_) | refine SW.condNB rfl (fun h => ?_) (fun h => ?_) | refine SW.condB rfl (fun h => ?_) (fun h => ?_))
  · rw [if_pos h]
    repeat (first | (with_reducible first | refine SW.seq ?_ | refine SW.block ?_ | refine SW.rowC ?_ | refine SW.skip ?_ | refine SW.exit ?_ | intro _ | refine And.intro (by omega) ?_) | simp (config := { maxSteps := 1000000 }) (disch := (first | omega | (simp only [go_sem]; try omega))) only [go_sem, Nat.reduceAdd, Nat.reduceEqDiff, Nat.reduceLeDiff, Nat.reduceMul, Nat.reduceLT, reduceIte, Int.reduceToNat, w64_id, cast_succ])
    refine SW.ret ?_; (try simp only [go_sem]); (first | refine FunPost.one ?_ | refine FunPost.two ?_ | refine FunPost.three ?_); (try simp (config := { maxSteps := 1000000 }) (disch := (first | omega | (simp only [go_sem]; try omega))) only [go_sem, Nat.reduceAdd, Nat.reduceEqDiff, Nat.reduceLeDiff, Nat.reduceMul, Nat.reduceLT, reduceIte, Int.reduceToNat, w64_id, cast_succ])
    exact GR.of nilFS1
  have hg := hgood h
  have hf := designB_facts hg.1
  obtain ⟨n, rfl⟩ := Int.eq_ofNat_of_zero_le (show 0 ≤ v by omega)
  obtain ⟨m, rfl⟩ := Int.eq_ofNat_of_zero_le hg.2.1
  rw [if_neg (by simpa using h)]
  repeat (first | (with_reducible first | refine SW.seq ?_ | refine SW.block ?_ | refine SW.rowC ?_ | refine SW.skip ?_ | refine SW.exit ?_ | intro _ | refine And.intro (by omega) ?_) | simp (config := { maxSteps := 1000000 }) (disch := (first | omega | (simp only [go_sem]; try omega))) only [go_sem, Nat.reduceAdd, Nat.reduceEqDiff, Nat.reduceLeDiff, Nat.reduceMul, Nat.reduceLT, reduceIte, Int.reduceToNat, w64_id, cast_succ])
  (first | refine SW.condD rfl (fun h2 => ?_) (fun h2 => ?_) | refine SW.condN rfl (fun h2 => ?_) (fun h2 => ?_) | refine SW.condNB rfl (fun h2 => ?_) (fun h2 => ?_) | refine SW.condB rfl (fun h2 => ?_) (fun h2 => ?_))
  · rw [if_pos h2]
    repeat (first | (with_reducible first | refine SW.seq ?_ | refine SW.block ?_ | refine SW.rowC ?_ | refine SW.skip ?_ | refine SW.exit ?_ | intro _ | refine And.intro (by omega) ?_) | simp (config := { maxSteps := 1000000 }) (disch := (first | omega | (simp only [go_sem]; try omega))) only [go_sem, Nat.reduceAdd, Nat.reduceEqDiff, Nat.reduceLeDiff, Nat.reduceMul, Nat.reduceLT, reduceIte, Int.reduceToNat, w64_id, cast_succ])
    refine SW.ret ?_; (try simp only [go_sem]); (first | refine FunPost.one ?_ | refine FunPost.two ?_ | refine FunPost.three ?_); (try simp (config := { maxSteps := 1000000 }) (disch := (first | omega | (simp only [go_sem]; try omega))) only [go_sem, Nat.reduceAdd, Nat.reduceEqDiff, Nat.reduceLeDiff, Nat.reduceMul, Nat.reduceLT, reduceIte, Int.reduceToNat, w64_id, cast_succ])
    exact GR.of nilFS1
  rw [if_neg h2]
  repeat (first | (with_reducible first | refine SW.seq ?_ | refine SW.block ?_ | refine SW.rowC ?_ | refine SW.skip ?_ | refine SW.exit ?_ | intro _ | refine And.intro (by omega) ?_) | simp (config := { maxSteps := 1000000 }) (disch := (first | omega | (simp only [go_sem]; try omega))) only [go_sem, Nat.reduceAdd, Nat.reduceEqDiff, Nat.reduceLeDiff, Nat.reduceMul, Nat.reduceLT, reduceIte, Int.reduceToNat, w64_id, cast_succ])
  refine SW.ghost (Gh.name 8 2 1 rfl) ?_
  simp (config := { maxSteps := 1000000 }) (disch := (first | omega | (simp only [go_sem]; try omega))) only [go_sem, Nat.reduceAdd, Nat.reduceEqDiff, Nat.reduceLeDiff, Nat.reduceMul, Nat.reduceLT, reduceIte, Int.reduceToNat, w64_id, cast_succ]
  refine SW.loopE (fun E0 H0 q E' H' => ∃ (s ver : Nat), s ≤ m + 1 ∧ q = m + 1 - s ∧ E' = aput (aput E0 23 (I s)) 8 (.nm (H.length + 1) ver 0 s) ∧ H' = H ++ [⟨0, tyD, 1, [I n, ilSS xss]⟩, ⟨ver, 2, 1, ((List.range s).map fun s => tIdx n xss s).map I⟩]) (m + 1) ⟨0, 0, by omega, by omega, rfl, rfl⟩ ?_
  rintro q E' H' ⟨s, ver, hs, rfl, rfl, rfl⟩
  have hl : ((List.range s).map fun s => tIdx n xss s).length = s := by simp
  have hsn : (List.range (s + 1)).map (fun s => tIdx n xss s) = ((List.range s).map fun s => tIdx n xss s) ++ [tIdx n xss s] := by simp [List.range_succ]
  generalize hL : (List.range s).map (fun s => tIdx n xss s) = L at *
  simp (config := { maxSteps := 1000000 }) (disch := (first | omega | (simp only [go_sem]; try omega))) only [go_sem, Nat.reduceAdd, Nat.reduceEqDiff, Nat.reduceLeDiff, Nat.reduceMul, Nat.reduceLT, reduceIte, Int.reduceToNat, w64_id, cast_succ]
  repeat (first | (with_reducible first | refine SW.seq ?_ | refine SW.block ?_ | refine SW.rowC ?_ | refine SW.skip ?_ | refine SW.exit ?_ | intro _ | refine And.intro (by omega) ?_) | simp (config := { maxSteps := 1000000 }) (disch := (first | omega | (simp only [go_sem]; try omega))) only [go_sem, Nat.reduceAdd, Nat.reduceEqDiff, Nat.reduceLeDiff, Nat.reduceMul, Nat.reduceLT, reduceIte, Int.reduceToNat, w64_id, cast_succ])
  (first | refine SW.condD rfl (fun h3 => ?_) (fun h3 => ?_) | refine SW.condN rfl (fun h3 => ?_) (fun h3 => ?_) | refine SW.condNB rfl (fun h3 => ?_) (fun h3 => ?_) | refine SW.condB rfl (fun h3 => ?_) (fun h3 => ?_))
  · repeat (first | (with_reducible first | refine SW.seq ?_ | refine SW.block ?_ | refine SW.rowC ?_ | refine SW.skip ?_ | refine SW.exit ?_ | refine PFn.use (implTIdx_fn n xss s (by omega) (by omega) (by omega)) ?_ | refine PFn.useq (implTIdx_fn n xss s (by omega) (by omega) (by omega)) ?_ | intro _ | refine And.intro (by omega) ?_) | simp (config := { maxSteps := 1000000 }) (disch := (first | omega | (simp only [go_sem]; try omega))) only [go_sem, Nat.reduceAdd, Nat.reduceEqDiff, Nat.reduceLeDiff, Nat.reduceMul, Nat.reduceLT, reduceIte, Int.reduceToNat, w64_id, cast_succ])
    have htk : (L.map I).take s = L.map I := List.take_of_length_le (by simp [hl])
    repeat (first | (with_reducible first | refine SW.seq ?_ | refine SW.block ?_ | refine SW.rowC ?_ | refine SW.skip ?_ | refine SW.exit ?_ | intro _ | refine And.intro (by omega) ?_) | simp (config := { maxSteps := 1000000 }) (disch := (first | omega | (simp only [go_sem]; try omega))) only [go_sem, Nat.reduceAdd, Nat.reduceEqDiff, Nat.reduceLeDiff, Nat.reduceMul, Nat.reduceLT, reduceIte, Int.reduceToNat, w64_id, cast_succ, htk])
    refine SLoop.nextT 2 (m + 1 - (s + 1)) hB (by omega) (by omega) (by simp) ?_ ?_ ⟨s + 1, ver + 1, by omega, rfl, ?_, ?_⟩
    · (simp only [go_sem, Nat.reduceAdd, Nat.reduceEqDiff, reduceIte, go_sem, and_self, and_true, true_and, implies_true, List.take_succ_cons, List.take_zero, and_true, true_and]; try omega)
    · (simp only [go_sem, Nat.reduceAdd, Nat.reduceEqDiff, reduceIte, go_sem, and_self, and_true, true_and, implies_true, List.take_succ_cons, List.take_zero, and_true, true_and]; try omega)
    · simp [go_sem]
    · rw [hsn]; simp
  · have : s = m + 1 := by omega
    subst this
    have hL' : (List.range m ++ [m]).map (fun s => tIdx n xss s) = L := by rw [← List.range_succ, hL]
    repeat (first | (with_reducible first | refine SW.seq ?_ | refine SW.block ?_ | refine SW.rowC ?_ | refine SW.skip ?_ | refine SW.exit ?_ | intro _ | refine And.intro (by omega) ?_) | simp (config := { maxSteps := 1000000 }) (disch := (first | omega | (simp only [go_sem]; try omega))) only [go_sem, Nat.reduceAdd, Nat.reduceEqDiff, Nat.reduceLeDiff, Nat.reduceMul, Nat.reduceLT, reduceIte, Int.reduceToNat, w64_id, cast_succ])
    rw [hL']
    refine SW.ret ?_; (try simp only [go_sem]); (first | refine FunPost.one ?_ | refine FunPost.two ?_ | refine FunPost.three ?_); (try simp (config := { maxSteps := 1000000 }) (disch := (first | omega | (simp only [go_sem]; try omega))) only [go_sem, Nat.reduceAdd, Nat.reduceEqDiff, Nat.reduceLeDiff, Nat.reduceMul, Nat.reduceLT, reduceIte, Int.reduceToNat, w64_id, cast_succ])
    exact GR.of ⟨_, _, _, rfl, rfl, .inl ⟨H.length + 1, ver, 2, by rw [hl], ⟨by omega, by simp⟩, by simp, by simp⟩, rfl⟩

theorem specLambdasOf_fn (v : Int) (xss : List (List Int)) (t : Int) (hx : ∀ xs ∈ xss, ∀ x ∈ xs, (Lit.int .i64 x).wf = true) : PFn Try.prog f_spec_LambdasOf [.agg [I v, ilSS xss], I t] (.tup [ilS (lamV v xss t).1, I (lamV v xss t).2]) := by
  intro H
  refine ACalls.introB s_spec_LambdasOf (by simp) ?_; intro hB hA; unfold c_spec_LambdasOf; simp (config := { maxSteps := 1000000 }) (disch := (first | omega | (simp only [go_sem]; try omega))) only [go_sem, Nat.reduceAdd, Nat.reduceEqDiff, Nat.reduceLeDiff, Nat.reduceMul, Nat.reduceLT, reduceIte, Int.reduceToNat, w64_id, cast_succ]
  repeat (first | (with_reducible first | refine SW.seq ?_ | refine SW.block ?_ | refine SW.rowC ?_ | refine SW.skip ?_ | refine SW.exit ?_ | intro _ | refine And.intro (by omega) ?_) | simp (config := { maxSteps := 1000000 }) (disch := (first | omega | (simp only [go_sem]; try omega))) only [go_sem, Nat.reduceAdd, Nat.reduceEqDiff, Nat.reduceLeDiff, Nat.reduceMul, Nat.reduceLT, reduceIte, Int.reduceToNat, w64_id, cast_succ])
  refine ACalls.fn (l10Ok_ok _ H.length 0 v xss hx (by simp)) ?_
  repeat (first | (with_reducible first | refine SW.seq ?_ | refine SW.block ?_ | refine SW.rowC ?_ | refine SW.skip ?_ | refine SW.exit ?_ | intro _ | refine And.intro (by omega) ?_) | simp (config := { maxSteps := 1000000 }) (disch := (first | omega | (simp only [go_sem]; try omega))) only [go_sem, Nat.reduceAdd, Nat.reduceEqDiff, Nat.reduceLeDiff, Nat.reduceMul, Nat.reduceLT, reduceIte, Int.reduceToNat, w64_id, cast_succ])
  unfold lamV tiV
  (first | refine SW.condD rfl (fun h => ?_) (fun h => ?_) | refine SW.condN rfl (fun h => ?_) (fun h => ?_) | refine SW.condNB rfl (fun h => ?_) (fun h => ?_) | refine SW.condB rfl (fun h => ?_) (fun h => ?_))
  · rw [h]
    repeat (first | (with_reducible first | refine SW.seq ?_ | refine SW.block ?_ | refine SW.rowC ?_ | refine SW.skip ?_ | refine SW.exit ?_ | intro _ | refine And.intro (by omega) ?_) | simp (config := { maxSteps := 1000000 }) (disch := (first | omega | (simp only [go_sem]; try omega))) only [go_sem, Nat.reduceAdd, Nat.reduceEqDiff, Nat.reduceLeDiff, Nat.reduceMul, Nat.reduceLT, reduceIte, Int.reduceToNat, w64_id, cast_succ])
    refine SW.ret ?_; (try simp only [go_sem]); (first | refine FunPost.one ?_ | refine FunPost.two ?_ | refine FunPost.three ?_); (try simp (config := { maxSteps := 1000000 }) (disch := (first | omega | (simp only [go_sem]; try omega))) only [go_sem, Nat.reduceAdd, Nat.reduceEqDiff, Nat.reduceLeDiff, Nat.reduceMul, Nat.reduceLT, reduceIte, Int.reduceToNat, w64_id, cast_succ])
    exact GR.froz (froz_tup2 .nil (froz_I' _)) ⟨rfl, rfl⟩
  rw [h]
  have hf := designB_facts h
  obtain ⟨n, rfl⟩ := Int.eq_ofNat_of_zero_le (show 0 ≤ v by omega)
  repeat (first | (with_reducible first | refine SW.seq ?_ | refine SW.block ?_ | refine SW.rowC ?_ | refine SW.skip ?_ | refine SW.exit ?_ | refine PFn.use (l00In_fn _ _ _) ?_ | refine PFn.useq (l00In_fn _ _ _) ?_ | intro _ | refine And.intro (by omega) ?_) | simp (config := { maxSteps := 1000000 }) (disch := (first | omega | (simp only [go_sem]; try omega))) only [go_sem, Nat.reduceAdd, Nat.reduceEqDiff, Nat.reduceLeDiff, Nat.reduceMul, Nat.reduceLT, reduceIte, Int.reduceToNat, w64_id, cast_succ])
  (first | refine SW.condD rfl (fun h2 => ?_) (fun h2 => ?_) | refine SW.condN rfl (fun h2 => ?_) (fun h2 => ?_) | refine SW.condNB rfl (fun h2 => ?_) (fun h2 => ?_) | refine SW.condB rfl (fun h2 => ?_) (fun h2 => ?_))
  · rw [h2]
    repeat (first | (with_reducible first | refine SW.seq ?_ | refine SW.block ?_ | refine SW.rowC ?_ | refine SW.skip ?_ | refine SW.exit ?_ | intro _ | refine And.intro (by omega) ?_) | simp (config := { maxSteps := 1000000 }) (disch := (first | omega | (simp only [go_sem]; try omega))) only [go_sem, Nat.reduceAdd, Nat.reduceEqDiff, Nat.reduceLeDiff, Nat.reduceMul, Nat.reduceLT, reduceIte, Int.reduceToNat, w64_id, cast_succ])
    refine SW.ret ?_; (try simp only [go_sem]); (first | refine FunPost.one ?_ | refine FunPost.two ?_ | refine FunPost.three ?_); (try simp (config := { maxSteps := 1000000 }) (disch := (first | omega | (simp only [go_sem]; try omega))) only [go_sem, Nat.reduceAdd, Nat.reduceEqDiff, Nat.reduceLeDiff, Nat.reduceMul, Nat.reduceLT, reduceIte, Int.reduceToNat, w64_id, cast_succ])
    exact GR.froz (froz_tup2 .nil (froz_I' _)) ⟨rfl, rfl⟩
  rw [h2]
  simp only [Bool.and_eq_true, decide_eq_true_eq] at h2
  obtain ⟨m, rfl⟩ := Int.eq_ofNat_of_zero_le h2.1
  have hidx := fun (H : List Blk) (p s : Nat) (hs : s ≤ 3) hp => l26Index_ok H p n xss s (by omega) (by omega) (by omega) hp
  repeat (first | (with_reducible first | refine SW.seq ?_ | refine SW.block ?_ | refine SW.rowC ?_ | refine SW.skip ?_ | refine SW.exit ?_ | intro _ | refine And.intro (by omega) ?_) | simp (config := { maxSteps := 1000000 }) (disch := (first | omega | (simp only [go_sem]; try omega))) only [go_sem, Nat.reduceAdd, Nat.reduceEqDiff, Nat.reduceLeDiff, Nat.reduceMul, Nat.reduceLT, reduceIte, Int.reduceToNat, w64_id, cast_succ])
  refine ACalls.fn (hidx _ H.length m (by omega) (by simp)) ?_
  repeat (first | (with_reducible first | refine SW.seq ?_ | refine SW.block ?_ | refine SW.rowC ?_ | refine SW.skip ?_ | refine SW.exit ?_ | intro _ | refine And.intro (by omega) ?_) | simp (config := { maxSteps := 1000000 }) (disch := (first | omega | (simp only [go_sem]; try omega))) only [go_sem, Nat.reduceAdd, Nat.reduceEqDiff, Nat.reduceLeDiff, Nat.reduceMul, Nat.reduceLT, reduceIte, Int.reduceToNat, w64_id, cast_succ])
  (first | refine SW.condD rfl (fun h3 => ?_) (fun h3 => ?_) | refine SW.condN rfl (fun h3 => ?_) (fun h3 => ?_) | refine SW.condNB rfl (fun h3 => ?_) (fun h3 => ?_) | refine SW.condB rfl (fun h3 => ?_) (fun h3 => ?_))
  · rw [if_pos h3]
    repeat (first | (with_reducible first | refine SW.seq ?_ | refine SW.block ?_ | refine SW.rowC ?_ | refine SW.skip ?_ | refine SW.exit ?_ | intro _ | refine And.intro (by omega) ?_) | simp (config := { maxSteps := 1000000 }) (disch := (first | omega | (simp only [go_sem]; try omega))) only [go_sem, Nat.reduceAdd, Nat.reduceEqDiff, Nat.reduceLeDiff, Nat.reduceMul, Nat.reduceLT, reduceIte, Int.reduceToNat, w64_id, cast_succ])
    refine SW.ret ?_; (try simp only [go_sem]); (first | refine FunPost.one ?_ | refine FunPost.two ?_ | refine FunPost.three ?_); (try simp (config := { maxSteps := 1000000 }) (disch := (first | omega | (simp only [go_sem]; try omega))) only [go_sem, Nat.reduceAdd, Nat.reduceEqDiff, Nat.reduceLeDiff, Nat.reduceMul, Nat.reduceLT, reduceIte, Int.reduceToNat, w64_id, cast_succ])
    exact GR.froz (froz_tup2 .nil (froz_I' _)) ⟨rfl, rfl⟩
  rw [if_neg h3]
  repeat (first | (with_reducible first | refine SW.seq ?_ | refine SW.block ?_ | refine SW.rowC ?_ | refine SW.skip ?_ | refine SW.exit ?_ | intro _ | refine And.intro (by omega) ?_) | simp (config := { maxSteps := 1000000 }) (disch := (first | omega | (simp only [go_sem]; try omega))) only [go_sem, Nat.reduceAdd, Nat.reduceEqDiff, Nat.reduceLeDiff, Nat.reduceMul, Nat.reduceLT, reduceIte, Int.reduceToNat, w64_id, cast_succ])
  refine SW.loopE (fun E0 H0 q E' H' => ∃ (s ver : Nat), s ≤ m + 1 ∧ q = m + 1 - s ∧ E' = aput (aput E0 7 (I s)) 6 (.nm (H.length + 1) ver 0 s) ∧ H' = H ++ [⟨0, tyD, 1, [I n, ilSS xss]⟩, ⟨ver, 2, 1, ((List.range s).map fun s => tIdx n xss s).map I⟩]) (m + 1) ⟨0, 0, by omega, by omega, rfl, rfl⟩ ?_
  rintro q E' H' ⟨s, ver, hs, rfl, rfl, rfl⟩
  have hl : ((List.range s).map fun s => tIdx n xss s).length = s := by simp
  have hsn : (List.range (s + 1)).map (fun s => tIdx n xss s) = ((List.range s).map fun s => tIdx n xss s) ++ [tIdx n xss s] := by simp [List.range_succ]
  generalize hL : (List.range s).map (fun s => tIdx n xss s) = L at *
  simp (config := { maxSteps := 1000000 }) (disch := (first | omega | (simp only [go_sem]; try omega))) only [go_sem, Nat.reduceAdd, Nat.reduceEqDiff, Nat.reduceLeDiff, Nat.reduceMul, Nat.reduceLT, reduceIte, Int.reduceToNat, w64_id, cast_succ]
  repeat (first | (with_reducible first | refine SW.seq ?_ | refine SW.block ?_ | refine SW.rowC ?_ | refine SW.skip ?_ | refine SW.exit ?_ | intro _ | refine And.intro (by omega) ?_) | simp (config := { maxSteps := 1000000 }) (disch := (first | omega | (simp only [go_sem]; try omega))) only [go_sem, Nat.reduceAdd, Nat.reduceEqDiff, Nat.reduceLeDiff, Nat.reduceMul, Nat.reduceLT, reduceIte, Int.reduceToNat, w64_id, cast_succ])
  (first | refine SW.condD rfl (fun h4 => ?_) (fun h4 => ?_) | refine SW.condN rfl (fun h4 => ?_) (fun h4 => ?_) | refine SW.condNB rfl (fun h4 => ?_) (fun h4 => ?_) | refine SW.condB rfl (fun h4 => ?_) (fun h4 => ?_))
  · have htk : (L.map I).take s = L.map I := List.take_of_length_le (by simp [hl])
    repeat (first | (with_reducible first | refine SW.seq ?_ | refine SW.block ?_ | refine SW.rowC ?_ | refine SW.skip ?_ | refine SW.exit ?_ | intro _ | refine And.intro (by omega) ?_) | simp (config := { maxSteps := 1000000 }) (disch := (first | omega | (simp only [go_sem]; try omega))) only [go_sem, Nat.reduceAdd, Nat.reduceEqDiff, Nat.reduceLeDiff, Nat.reduceMul, Nat.reduceLT, reduceIte, Int.reduceToNat, w64_id, cast_succ])
    refine ACalls.fn (hidx _ H.length s (by omega) (by simp)) ?_
    repeat (first | (with_reducible first | refine SW.seq ?_ | refine SW.block ?_ | refine SW.rowC ?_ | refine SW.skip ?_ | refine SW.exit ?_ | intro _ | refine And.intro (by omega) ?_) | simp (config := { maxSteps := 1000000 }) (disch := (first | omega | (simp only [go_sem]; try omega))) only [go_sem, Nat.reduceAdd, Nat.reduceEqDiff, Nat.reduceLeDiff, Nat.reduceMul, Nat.reduceLT, reduceIte, Int.reduceToNat, w64_id, cast_succ, htk])
    refine SLoop.nextT 2 (m + 1 - (s + 1)) hB (by omega) (by omega) (by simp) ?_ ?_ ⟨s + 1, ver + 1, by omega, rfl, ?_, ?_⟩
    · (simp only [go_sem, Nat.reduceAdd, Nat.reduceEqDiff, reduceIte, go_sem, and_self, and_true, true_and, implies_true, List.take_succ_cons, List.take_zero, and_true, true_and]; try omega)
    · (simp only [go_sem, Nat.reduceAdd, Nat.reduceEqDiff, reduceIte, go_sem, and_self, and_true, true_and, implies_true, List.take_succ_cons, List.take_zero, and_true, true_and]; try omega)
    · simp [go_sem]
    · rw [hsn]; simp
  · have : s = m + 1 := by omega
    subst this
    have hL' : (List.range m ++ [m]).map (fun s => tIdx n xss s) = L := by rw [← List.range_succ, hL]
    repeat (first | (with_reducible first | refine SW.seq ?_ | refine SW.block ?_ | refine SW.rowC ?_ | refine SW.skip ?_ | refine SW.exit ?_ | intro _ | refine And.intro (by omega) ?_) | simp (config := { maxSteps := 1000000 }) (disch := (first | omega | (simp only [go_sem]; try omega))) only [go_sem, Nat.reduceAdd, Nat.reduceEqDiff, Nat.reduceLeDiff, Nat.reduceMul, Nat.reduceLT, reduceIte, Int.reduceToNat, w64_id, cast_succ])
    rw [hL']
    refine SW.ret ?_; (try simp only [go_sem]); (first | refine FunPost.one ?_ | refine FunPost.two ?_ | refine FunPost.three ?_); (try simp (config := { maxSteps := 1000000 }) (disch := (first | omega | (simp only [go_sem]; try omega))) only [go_sem, Nat.reduceAdd, Nat.reduceEqDiff, Nat.reduceLeDiff, Nat.reduceMul, Nat.reduceLT, reduceIte, Int.reduceToNat, w64_id, cast_succ])
    have := @froz_rowI (H ++ [⟨0, tyD, 1, [I n, ilSS xss]⟩, ⟨ver, 2, 1, L.map I⟩]) H.length (H.length + 1) ver 2 L (by omega) (by simp)
    rw [hl] at this
    exact GR.froz (froz_tup2 this (froz_I' _)) ⟨rfl, rfl⟩

theorem lawLambdasOf_ok (H : List Blk) (n : Int) (xss : List (List Int)) (t : Int) (hx : ∀ xs ∈ xss, ∀ x ∈ xs, (Lit.int .i64 x).wf = true) : ACalls Try.prog f_laws_FnExactLambdasOf [.agg [I n, ilSS xss], I t] H (fun r _ => r = Bv true) := by
  have hs := specLambdasOf_fn n xss t hx
  have hi := implLambdasOf_fs n xss t hx
  have hlen := lamV_len n xss t
  generalize (lamV n xss t).1 = zs at *
  generalize (lamV n xss t).2 = code at *
  refine ACalls.introB s_laws_FnExactLambdasOf (by simp) ?_; intro hB hA; unfold c_laws_FnExactLambdasOf; simp (config := { maxSteps := 1000000 }) (disch := (first | omega | (simp only [go_sem]; try omega))) only [go_sem, Nat.reduceAdd, Nat.reduceEqDiff, Nat.reduceLeDiff, Nat.reduceMul, Nat.reduceLT, reduceIte, Int.reduceToNat, w64_id, cast_succ]
  repeat (first | (with_reducible first | refine SW.seq ?_ | refine SW.block ?_ | refine SW.rowC ?_ | refine SW.skip ?_ | refine SW.exit ?_ | intro _ | refine And.intro (by omega) ?_) | simp (config := { maxSteps := 1000000 }) (disch := (first | omega | (simp only [go_sem]; try omega))) only [go_sem, Nat.reduceAdd, Nat.reduceEqDiff, Nat.reduceLeDiff, Nat.reduceMul, Nat.reduceLT, reduceIte, Int.reduceToNat, w64_id, cast_succ])
  refine (szDesign_ok _ n _ xss _ rfl (rd_ilSS _ _) (by omega) (by omega)).mono ?_
  rintro r H' ⟨⟨z, rfl, g1, g2, g3⟩, rfl⟩
  repeat (first | (with_reducible first | refine SW.seq ?_ | refine SW.block ?_ | refine SW.rowC ?_ | refine SW.skip ?_ | refine SW.exit ?_ | intro _ | refine And.intro (by omega) ?_) | simp (config := { maxSteps := 1000000 }) (disch := (first | omega | (simp only [go_sem]; try omega))) only [go_sem, Nat.reduceAdd, Nat.reduceEqDiff, Nat.reduceLeDiff, Nat.reduceMul, Nat.reduceLT, reduceIte, Int.reduceToNat, w64_id, cast_succ])
  (first | refine SW.condD rfl (fun h2 => ?_) (fun h2 => ?_) | refine SW.condN rfl (fun h2 => ?_) (fun h2 => ?_) | refine SW.condNB rfl (fun h2 => ?_) (fun h2 => ?_) | refine SW.condB rfl (fun h2 => ?_) (fun h2 => ?_))
  · repeat (first | (with_reducible first | refine SW.seq ?_ | refine SW.block ?_ | refine SW.rowC ?_ | refine SW.skip ?_ | refine SW.exit ?_ | intro _ | refine And.intro (by omega) ?_) | simp (config := { maxSteps := 1000000 }) (disch := (first | omega | (simp only [go_sem]; try omega))) only [go_sem, Nat.reduceAdd, Nat.reduceEqDiff, Nat.reduceLeDiff, Nat.reduceMul, Nat.reduceLT, reduceIte, Int.reduceToNat, w64_id, cast_succ])
    refine SW.ret ?_; (try simp only [go_sem]); (first | refine FunPost.one ?_ | refine FunPost.two ?_ | refine FunPost.three ?_); (try simp (config := { maxSteps := 1000000 }) (disch := (first | omega | (simp only [go_sem]; try omega))) only [go_sem, Nat.reduceAdd, Nat.reduceEqDiff, Nat.reduceLeDiff, Nat.reduceMul, Nat.reduceLT, reduceIte, Int.reduceToNat, w64_id, cast_succ])
    exact GR.of rfl
  have hsx := small_rows (by omega) (g3 (by omega)) (by omega)
  have t1 := toDesign_fn n xss hsx.1 hsx.2
  replace hlen := hlen hsx.1
  have htot : total xss ≤ 1073741824 := by have := g3 (by omega); omega
  repeat (first | (with_reducible first | refine SW.seq ?_ | refine SW.block ?_ | refine SW.rowC ?_ | refine SW.skip ?_ | refine SW.exit ?_ | intro _ | refine And.intro (by omega) ?_) | simp (config := { maxSteps := 1000000 }) (disch := (first | omega | (simp only [go_sem]; try omega))) only [go_sem, Nat.reduceAdd, Nat.reduceEqDiff, Nat.reduceLeDiff, Nat.reduceMul, Nat.reduceLT, reduceIte, Int.reduceToNat, w64_id, cast_succ])
  refine ACalls.fn (t1 _) ?_
  repeat (first | (with_reducible first | refine SW.seq ?_ | refine SW.block ?_ | refine SW.rowC ?_ | refine SW.skip ?_ | refine SW.exit ?_ | refine PFn.use (hs) ?_ | refine PFn.useq (hs) ?_ | intro _ | refine And.intro (by omega) ?_) | simp (config := { maxSteps := 1000000 }) (disch := (first | omega | (simp only [go_sem]; try omega))) only [go_sem, Nat.reduceAdd, Nat.reduceEqDiff, Nat.reduceLeDiff, Nat.reduceMul, Nat.reduceLT, reduceIte, Int.reduceToNat, w64_id, cast_succ])
  refine (toDesign_ok _ n _ xss rfl (rd_ilSS _ _) hsx.1 hsx.2).mono ?_
  rintro r H1 ⟨ext, v, hH1, rfl, own⟩
  have pw := get_appU (show (H ++ [(⟨0, 45, 1, [I n, ilSS xss]⟩ : Blk)])[H.length]? = some ⟨0, 45, 1, [I n, ilSS xss]⟩ by simp) ext
  rw [← hH1] at pw
  have hb : (H ++ [(⟨0, 45, 1, [I n, ilSS xss]⟩ : Blk)]).length = H.length + 1 := by simp
  rw [hb] at own
  have hlt : H.length < H1.length := (List.getElem?_eq_some_iff.1 pw).1
  clear hH1 hb
  repeat (first | (with_reducible first | refine SW.seq ?_ | refine SW.block ?_ | refine SW.rowC ?_ | refine SW.skip ?_ | refine SW.exit ?_ | intro _ | refine And.intro (by omega) ?_) | simp (config := { maxSteps := 1000000 }) (disch := (first | omega | (simp only [go_sem]; try omega))) only [go_sem, Nat.reduceAdd, Nat.reduceEqDiff, Nat.reduceLeDiff, Nat.reduceMul, Nat.reduceLT, reduceIte, Int.reduceToNat, w64_id, cast_succ, own.one.1, own.one.2])
  have pg : (H1 ++ [(⟨0, 48, 1, [I n, v]⟩ : Blk)])[H1.length]? = some ⟨0, 48, 1, [I n, v]⟩ := by simp
  replace pw := get_appU pw [(⟨0, 48, 1, [I n, v]⟩ : Blk)]
  replace own := own.append [(⟨0, 48, 1, [I n, v]⟩ : Blk)]
  generalize hg : H1.length = g at *
  have hgl : g < (H1 ++ [(⟨0, 48, 1, [I n, v]⟩ : Blk)]).length := (List.getElem?_eq_some_iff.1 pg).1
  generalize H1 ++ [(⟨0, 48, 1, [I n, v]⟩ : Blk)] = H2 at *
  refine (hi.lend (.cons (froz_agg2 (froz_I' _) (own.froz (fun r _ => Nat.zero_le _))) (.cons (froz_I' _) .nil))).mono ?_
  rintro r H3 ⟨ext2, u, t, hH3, rfl, ho, ht⟩
  replace pw := get_appU pw ext2
  replace pg := get_appU pg ext2
  replace own := own.append ext2
  rw [← hH3] at pw pg own
  clear hH3
  repeat (first | (with_reducible first | refine SW.seq ?_ | refine SW.block ?_ | refine SW.rowC ?_ | refine SW.skip ?_ | refine SW.exit ?_ | intro _ | refine And.intro (by omega) ?_) | simp (config := { maxSteps := 1000000 }) (disch := (first | omega | (simp only [go_sem]; try omega))) only [go_sem, Nat.reduceAdd, Nat.reduceEqDiff, Nat.reduceLeDiff, Nat.reduceMul, Nat.reduceLT, reduceIte, Int.reduceToNat, w64_id, cast_succ])
  refine ACalls.fn (eqInt64S_ok _ _ _ _ _ ho.rd (rd_ilS _ _)) ?_
  repeat (first | (with_reducible first | refine SW.seq ?_ | refine SW.block ?_ | refine SW.rowC ?_ | refine SW.skip ?_ | refine SW.exit ?_ | intro _ | refine And.intro (by omega) ?_) | simp (config := { maxSteps := 1000000 }) (disch := (first | omega | (simp only [go_sem]; try omega))) only [go_sem, Nat.reduceAdd, Nat.reduceEqDiff, Nat.reduceLeDiff, Nat.reduceMul, Nat.reduceLT, reduceIte, Int.reduceToNat, w64_id, cast_succ])
  refine SW.condF rfl ?_
  repeat (first | (with_reducible first | refine SW.seq ?_ | refine SW.block ?_ | refine SW.rowC ?_ | refine SW.skip ?_ | refine SW.exit ?_ | refine PFn.use (t1) ?_ | refine PFn.useq (t1) ?_ | intro _ | refine And.intro (by omega) ?_) | simp (config := { maxSteps := 1000000 }) (disch := (first | omega | (simp only [go_sem]; try omega))) only [go_sem, Nat.reduceAdd, Nat.reduceEqDiff, Nat.reduceLeDiff, Nat.reduceMul, Nat.reduceLT, reduceIte, Int.reduceToNat, w64_id, cast_succ, pc_lds pg, pc_lds pw, own.one.1, own.one.2])
  refine QcallW.of (fun ext => eqDesign_ok _ n n v (ilSS xss) xss xss own.one.1 rfl (own.append ext).rd (rd_ilSS _ _)) ?_
  rw [show (decide (n = n) && decide (xss = xss)) = true by simp]
  repeat (first | (with_reducible first | refine SW.seq ?_ | refine SW.block ?_ | refine SW.rowC ?_ | refine SW.skip ?_ | refine SW.exit ?_ | intro _ | refine And.intro (by omega) ?_) | simp (config := { maxSteps := 1000000 }) (disch := (first | omega | (simp only [go_sem]; try omega))) only [go_sem, Nat.reduceAdd, Nat.reduceEqDiff, Nat.reduceLeDiff, Nat.reduceMul, Nat.reduceLT, reduceIte, Int.reduceToNat, w64_id, cast_succ])
  refine SW.condF rfl ?_
  repeat (first | (with_reducible first | refine SW.seq ?_ | refine SW.block ?_ | refine SW.rowC ?_ | refine SW.skip ?_ | refine SW.exit ?_ | intro _ | refine And.intro (by omega) ?_) | simp (config := { maxSteps := 1000000 }) (disch := (first | omega | (simp only [go_sem]; try omega))) only [go_sem, Nat.reduceAdd, Nat.reduceEqDiff, Nat.reduceLeDiff, Nat.reduceMul, Nat.reduceLT, reduceIte, Int.reduceToNat, w64_id, cast_succ, pc_lds pg, pc_lds pw, own.one.1, own.one.2])
  refine (markDesign_ok _ _ n 1 v xss own.one.1 own (by omega) (by omega)).mono ?_
  rintro r H4 ⟨rfl, -, m1, m2⟩
  have hlt3 := (List.getElem?_eq_some_iff.1 pg).1
  replace pw := (m2 H.length (by unfold Btw; omega) (by omega)).trans pw
  replace ho := ho.same (H' := H4) (fun j b hj _ hb => by rw [m2 j (by unfold Btw at hj ⊢; omega) (by unfold Btw at hj; omega)]; exact hb)
  have hneg1 : decide ((1 : Int) + total xss < 0) = false := decide_eq_false (by omega)
  have hneg2 : decide ((1 : Int) + zs.length < 0) = false := decide_eq_false (by omega)
  repeat (first | (with_reducible first | refine SW.seq ?_ | refine SW.block ?_ | refine SW.rowC ?_ | refine SW.skip ?_ | refine SW.exit ?_ | intro _ | refine And.intro (by omega) ?_) | simp (config := { maxSteps := 1000000 }) (disch := (first | omega | (simp only [go_sem]; try omega))) only [go_sem, Nat.reduceAdd, Nat.reduceEqDiff, Nat.reduceLeDiff, Nat.reduceMul, Nat.reduceLT, reduceIte, Int.reduceToNat, w64_id, cast_succ, hneg1])
  refine ACalls.fn (eqInt64S_ok _ _ _ _ _ ho.rd (rd_ilS _ _)) ?_
  repeat (first | (with_reducible first | refine SW.seq ?_ | refine SW.block ?_ | refine SW.rowC ?_ | refine SW.skip ?_ | refine SW.exit ?_ | intro _ | refine And.intro (by omega) ?_) | simp (config := { maxSteps := 1000000 }) (disch := (first | omega | (simp only [go_sem]; try omega))) only [go_sem, Nat.reduceAdd, Nat.reduceEqDiff, Nat.reduceLeDiff, Nat.reduceMul, Nat.reduceLT, reduceIte, Int.reduceToNat, w64_id, cast_succ])
  refine SW.condF rfl ?_
  repeat (first | (with_reducible first | refine SW.seq ?_ | refine SW.block ?_ | refine SW.rowC ?_ | refine SW.skip ?_ | refine SW.exit ?_ | intro _ | refine And.intro (by omega) ?_) | simp (config := { maxSteps := 1000000 }) (disch := (first | omega | (simp only [go_sem]; try omega))) only [go_sem, Nat.reduceAdd, Nat.reduceEqDiff, Nat.reduceLeDiff, Nat.reduceMul, Nat.reduceLT, reduceIte, Int.reduceToNat, w64_id, cast_succ])
  refine (markS_ok _ _ _ _ _ 1 ho (by omega) (by omega)).mono ?_
  rintro r H5 ⟨rfl, ho5, n1, n2⟩
  replace pw := (n2 H.length (by unfold Btw; omega)).trans pw
  repeat (first | (with_reducible first | refine SW.seq ?_ | refine SW.block ?_ | refine SW.rowC ?_ | refine SW.skip ?_ | refine SW.exit ?_ | intro _ | refine And.intro (by omega) ?_) | simp (config := { maxSteps := 1000000 }) (disch := (first | omega | (simp only [go_sem]; try omega))) only [go_sem, Nat.reduceAdd, Nat.reduceEqDiff, Nat.reduceLeDiff, Nat.reduceMul, Nat.reduceLT, reduceIte, Int.reduceToNat, w64_id, cast_succ])
  refine ACalls.fn (heldInt64S_ok _ _ _ 1 ho5.rd (by omega) (by omega)) ?_
  repeat (first | (with_reducible first | refine SW.seq ?_ | refine SW.block ?_ | refine SW.rowC ?_ | refine SW.skip ?_ | refine SW.exit ?_ | intro _ | refine And.intro (by omega) ?_) | simp (config := { maxSteps := 1000000 }) (disch := (first | omega | (simp only [go_sem]; try omega))) only [go_sem, Nat.reduceAdd, Nat.reduceEqDiff, Nat.reduceLeDiff, Nat.reduceMul, Nat.reduceLT, reduceIte, Int.reduceToNat, w64_id, cast_succ, hneg2])
  refine SW.condF rfl ?_
  repeat (first | (with_reducible first | refine SW.seq ?_ | refine SW.block ?_ | refine SW.rowC ?_ | refine SW.skip ?_ | refine SW.exit ?_ | intro _ | refine And.intro (by omega) ?_) | simp (config := { maxSteps := 1000000 }) (disch := (first | omega | (simp only [go_sem]; try omega))) only [go_sem, Nat.reduceAdd, Nat.reduceEqDiff, Nat.reduceLeDiff, Nat.reduceMul, Nat.reduceLT, reduceIte, Int.reduceToNat, w64_id, cast_succ])
  refine SW.condF rfl ?_
  repeat (first | (with_reducible first | refine SW.seq ?_ | refine SW.block ?_ | refine SW.rowC ?_ | refine SW.skip ?_ | refine SW.exit ?_ | refine PFn.use (t1) ?_ | refine PFn.useq (t1) ?_ | intro _ | refine And.intro (by omega) ?_) | simp (config := { maxSteps := 1000000 }) (disch := (first | omega | (simp only [go_sem]; try omega))) only [go_sem, Nat.reduceAdd, Nat.reduceEqDiff, Nat.reduceLeDiff, Nat.reduceMul, Nat.reduceLT, reduceIte, Int.reduceToNat, w64_id, cast_succ, pc_lds pw])
  refine (hi _).mono ?_
  rintro r H6 ⟨ext3, u3, t3, rfl, rfl, ho6, ht6⟩
  repeat (first | (with_reducible first | refine SW.seq ?_ | refine SW.block ?_ | refine SW.rowC ?_ | refine SW.skip ?_ | refine SW.exit ?_ | intro _ | refine And.intro (by omega) ?_) | simp (config := { maxSteps := 1000000 }) (disch := (first | omega | (simp only [go_sem]; try omega))) only [go_sem, Nat.reduceAdd, Nat.reduceEqDiff, Nat.reduceLeDiff, Nat.reduceMul, Nat.reduceLT, reduceIte, Int.reduceToNat, w64_id, cast_succ])
  refine ACalls.fn (eqInt64S_ok _ _ _ _ _ ho6.rd (rd_ilS _ _)) ?_
  repeat (first | (with_reducible first | refine SW.seq ?_ | refine SW.block ?_ | refine SW.rowC ?_ | refine SW.skip ?_ | refine SW.exit ?_ | intro _ | refine And.intro (by omega) ?_) | simp (config := { maxSteps := 1000000 }) (disch := (first | omega | (simp only [go_sem]; try omega))) only [go_sem, Nat.reduceAdd, Nat.reduceEqDiff, Nat.reduceLeDiff, Nat.reduceMul, Nat.reduceLT, reduceIte, Int.reduceToNat, w64_id, cast_succ])
  refine SW.condF rfl ?_
  repeat (first | (with_reducible first | refine SW.seq ?_ | refine SW.block ?_ | refine SW.rowC ?_ | refine SW.skip ?_ | refine SW.exit ?_ | intro _ | refine And.intro (by omega) ?_) | simp (config := { maxSteps := 1000000 }) (disch := (first | omega | (simp only [go_sem]; try omega))) only [go_sem, Nat.reduceAdd, Nat.reduceEqDiff, Nat.reduceLeDiff, Nat.reduceMul, Nat.reduceLT, reduceIte, Int.reduceToNat, w64_id, cast_succ])
  refine ACalls.fn (heldInt64S_ok _ _ _ 1 (ho5.rd.append _) (by omega) (by omega)) ?_
  repeat (first | (with_reducible first | refine SW.seq ?_ | refine SW.block ?_ | refine SW.rowC ?_ | refine SW.skip ?_ | refine SW.exit ?_ | intro _ | refine And.intro (by omega) ?_) | simp (config := { maxSteps := 1000000 }) (disch := (first | omega | (simp only [go_sem]; try omega))) only [go_sem, Nat.reduceAdd, Nat.reduceEqDiff, Nat.reduceLeDiff, Nat.reduceMul, Nat.reduceLT, reduceIte, Int.reduceToNat, w64_id, cast_succ, hneg2])
  refine SW.condF rfl ?_
  repeat (first | (with_reducible first | refine SW.seq ?_ | refine SW.block ?_ | refine SW.rowC ?_ | refine SW.skip ?_ | refine SW.exit ?_ | intro _ | refine And.intro (by omega) ?_) | simp (config := { maxSteps := 1000000 }) (disch := (first | omega | (simp only [go_sem]; try omega))) only [go_sem, Nat.reduceAdd, Nat.reduceEqDiff, Nat.reduceLeDiff, Nat.reduceMul, Nat.reduceLT, reduceIte, Int.reduceToNat, w64_id, cast_succ])
  refine SW.condF rfl ?_
  repeat (first | (with_reducible first | refine SW.seq ?_ | refine SW.block ?_ | refine SW.rowC ?_ | refine SW.skip ?_ | refine SW.exit ?_ | intro _ | refine And.intro (by omega) ?_) | simp (config := { maxSteps := 1000000 }) (disch := (first | omega | (simp only [go_sem]; try omega))) only [go_sem, Nat.reduceAdd, Nat.reduceEqDiff, Nat.reduceLeDiff, Nat.reduceMul, Nat.reduceLT, reduceIte, Int.reduceToNat, w64_id, cast_succ])
  refine SW.ret ?_; (try simp only [go_sem]); (first | refine FunPost.one ?_ | refine FunPost.two ?_ | refine FunPost.three ?_); (try simp (config := { maxSteps := 1000000 }) (disch := (first | omega | (simp only [go_sem]; try omega))) only [go_sem, Nat.reduceAdd, Nat.reduceEqDiff, Nat.reduceLeDiff, Nat.reduceMul, Nat.reduceLT, reduceIte, Int.reduceToNat, w64_id, cast_succ])
  exact GR.of rfl


end Go.Proofs.Ytkpohapopokahaa
