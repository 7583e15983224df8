/- Critical sets. -/
import Derived.Test.YtchehdplcbffmaaProg
import Derived.KernelRfl
import Derived.Test.YtchehdplcbffmaazK35
set_option linter.unusedSimpArgs false
set_option linter.unusedVariables false
set_option maxHeartbeats 4000000
set_option maxRecDepth 100000
namespace Go.Proofs.Ytchehdplcbffmaa
open Go.Av
abbrev f_impl_IsCritical : Nat := 10
def c_impl_IsCritical : SC :=
 .seq (.reg [
     ⟨(some 4), .mv (.const (.bool false)), none⟩,
     ⟨(some 5), .mv (.const (.int .i64 0)), none⟩] [0, 1])
 (.seq (.seq (.reg [
     ⟨(some 14), .mv (.tmp 0), none⟩,
     ⟨(some 15), .call 19 [(.tmp 14)], none⟩,
     ⟨(some 16), .un .not (.tmp 15), none⟩] [0, 1, 16])
 (.cond (.tmp 16)
  (.seq (.reg [
      ⟨(some 4), .mv (.const (.bool false)), none⟩,
      ⟨(some 5), .mv (.const (.int .i64 1)), none⟩] [4, 5])
  (.ret))
  (.skip)))
 (.seq (.seq (.reg [
     ⟨(some 17), .mv (.tmp 1), none⟩,
     ⟨(some 18), .call 41 [(.tmp 17)], none⟩,
     ⟨(some 19), .un .not (.tmp 18), none⟩] [0, 1, 19])
 (.cond (.tmp 19)
  (.seq (.reg [
      ⟨(some 4), .mv (.const (.bool false)), none⟩,
      ⟨(some 5), .mv (.const (.int .i64 2)), none⟩] [4, 5])
  (.ret))
  (.skip)))
 (.seq (.seq (.reg [
     ⟨(some 21), .mv (.tmp 0), none⟩,
     ⟨(some 22), .mv (.tmp 1), none⟩,
     ⟨(some 23), .call 12 [(.tmp 21), (.const (.int .i64 2)), (.tmp 22)], none⟩,
     ⟨(some 20), .mv (.tmp 23), none⟩,
     ⟨(some 24), .ext (.tmp 20) 0, none⟩,
     ⟨(some 25), .ext (.tmp 20) 1, none⟩,
     ⟨(some 6), .mv (.tmp 24), none⟩,
     ⟨(some 7), .mv (.tmp 25), none⟩] [0, 1, 6, 7])
 (.seq (.reg [
     ⟨(some 26), .mv (.tmp 7), none⟩,
     ⟨(some 27), .bin .neq (.tmp 26) (.const (.int .i64 0)), none⟩,
     ⟨(some 28), .mv (.tmp 27), none⟩,
     ⟨(some 29), .mv (.tmp 6), (some (28, false))⟩,
     ⟨(some 30), .bin .neq (.tmp 29) (.const (.int .i64 1)), (some (28, false))⟩,
     ⟨(some 31), .pick (.tmp 28) (.const (.bool true)) (.tmp 30), none⟩] [0, 1, 7, 31])
 (.cond (.tmp 31)
  (.seq (.reg [
      ⟨(some 32), .mv (.tmp 7), none⟩,
      ⟨(some 4), .mv (.const (.bool false)), none⟩,
      ⟨(some 5), .mv (.tmp 32), none⟩] [4, 5])
  (.ret))
  (.skip))))
 (.seq (.reg [
     ⟨(some 33), .mv (.tmp 0), none⟩,
     ⟨(some 34), .call 42 [(.tmp 33)], none⟩,
     ⟨(some 8), .mv (.tmp 34), none⟩] [0, 1, 8])
 (.seq (.seq (.reg [
     ⟨(some 9), .mv (.const (.int .i64 0)), none⟩] [0, 1, 8, 9])
 (.block 0 (.loop [0, 1, 8, 9]
   (.seq (.seq (.reg [
       ⟨(some 35), .mv (.tmp 9), none⟩,
       ⟨(some 36), .mv (.tmp 8), none⟩,
       ⟨(some 37), .mv (.tmp 8), none⟩,
       ⟨(some 38), .bin .mul (.tmp 36) (.tmp 37), none⟩,
       ⟨(some 39), .bin .lss (.tmp 35) (.tmp 38), none⟩] [0, 1, 8, 9, 39])
   (.cond (.tmp 39)
    (.skip)
    (.exit 0)))
   (.seq (.block 1 (.seq (.seq (.reg [
        ⟨(some 42), .mv (.tmp 0), none⟩,
        ⟨(some 43), .mv (.tmp 9), none⟩,
        ⟨(some 44), .mv (.tmp 8), none⟩,
        ⟨(some 45), .bin .quo (.tmp 43) (.tmp 44), none⟩,
        ⟨(some 46), .iaddr 1 (.tmp 42) (.tmp 45), none⟩,
        ⟨(some 47), .load 1 false (.tmp 46), none⟩,
        ⟨(some 48), .mv (.tmp 9), none⟩,
        ⟨(some 49), .mv (.tmp 8), none⟩,
        ⟨(some 50), .bin .rem (.tmp 48) (.tmp 49), none⟩,
        ⟨(some 51), .iaddr 1 (.tmp 47) (.tmp 50), none⟩,
        ⟨(some 52), .load 1 false (.tmp 51), none⟩,
        ⟨(some 53), .bin .eql (.tmp 52) (.const (.int .i64 (-1))), none⟩] [0, 1, 8, 9, 53])
    (.cond (.tmp 53)
     (.exit 1)
     (.skip)))
    (.seq (.reg [
        ⟨(some 55), .mv (.tmp 0), none⟩,
        ⟨(some 56), .mv (.tmp 9), none⟩,
        ⟨(some 57), .bslice 2 1 1 [(.int .i64 0)] [(0, (.tmp 56))], none⟩,
        ⟨(some 58), .call 14 [(.tmp 55), (.tmp 57)], none⟩,
        ⟨(some 54), .mv (.tmp 58), none⟩,
        ⟨(some 59), .ext (.tmp 54) 0, none⟩,
        ⟨(some 60), .ext (.tmp 54) 1, none⟩,
        ⟨(some 10), .mv (.tmp 59), none⟩,
        ⟨(some 11), .mv (.tmp 60), none⟩] [0, 1, 8, 9, 10])
    (.seq (.reg [
        ⟨(some 62), .mv (.tmp 10), none⟩,
        ⟨(some 63), .mv (.tmp 1), none⟩,
        ⟨(some 64), .call 12 [(.tmp 62), (.const (.int .i64 2)), (.tmp 63)], none⟩,
        ⟨(some 61), .mv (.tmp 64), none⟩,
        ⟨(some 65), .ext (.tmp 61) 0, none⟩,
        ⟨(some 66), .ext (.tmp 61) 1, none⟩,
        ⟨(some 12), .mv (.tmp 65), none⟩,
        ⟨(some 13), .mv (.tmp 66), none⟩] [0, 1, 8, 9, 12, 13])
    (.seq (.reg [
        ⟨(some 67), .mv (.tmp 13), none⟩,
        ⟨(some 68), .bin .neq (.tmp 67) (.const (.int .i64 0)), none⟩,
        ⟨(some 69), .mv (.tmp 68), none⟩,
        ⟨(some 70), .mv (.tmp 12), (some (69, false))⟩,
        ⟨(some 71), .bin .neq (.tmp 70) (.const (.int .i64 2)), (some (69, false))⟩,
        ⟨(some 72), .pick (.tmp 69) (.const (.bool true)) (.tmp 71), none⟩] [0, 1, 8, 9, 13, 72])
    (.cond (.tmp 72)
     (.seq (.reg [
         ⟨(some 73), .mv (.tmp 13), none⟩,
         ⟨(some 4), .mv (.const (.bool false)), none⟩,
         ⟨(some 5), .mv (.tmp 73), none⟩] [4, 5])
     (.ret))
     (.skip)))))))
   (.reg [
       ⟨(some 40), .mv (.tmp 9), none⟩,
       ⟨(some 41), .bin .add (.tmp 40) (.const (.int .i64 1)), none⟩,
       ⟨(some 9), .mv (.tmp 41), none⟩] [0, 1, 8, 9]))))))
 (.seq (.reg [
     ⟨(some 4), .mv (.const (.bool true)), none⟩,
     ⟨(some 5), .mv (.const (.int .i64 0)), none⟩] [4, 5])
 (.ret)))))))
theorem s_impl_IsCritical : stripF Try.prog 10 [[0, 1], [0, 1, 16], [4, 5], [0, 1, 19], [4, 5], [0, 1, 6, 7], [0, 1, 7, 31], [4, 5], [0, 1, 8], [0, 1, 8, 9], [0, 1, 8, 9], [0, 1, 8, 9, 39], [0, 1, 8, 9, 53], [0, 1, 8, 9, 10], [0, 1, 8, 9, 12, 13], [0, 1, 8, 9, 13, 72], [4, 5], [0, 1, 8, 9], [4, 5]] = some (c_impl_IsCritical, [.tmp 4, .tmp 5], 74) := by kernel_rfl
abbrev f_spec_IsCritical : Nat := 11
def c_spec_IsCritical : SC :=
 .seq (.reg [
     ⟨(some 4), .mv (.const (.bool false)), none⟩,
     ⟨(some 5), .mv (.const (.int .i64 0)), none⟩] [0, 1])
 (.seq (.seq (.reg [
     ⟨(some 11), .mv (.tmp 0), none⟩,
     ⟨(some 12), .call 43 [(.tmp 11)], none⟩,
     ⟨(some 13), .un .not (.tmp 12), none⟩] [0, 1, 13])
 (.cond (.tmp 13)
  (.seq (.reg [
      ⟨(some 4), .mv (.const (.bool false)), none⟩,
      ⟨(some 5), .mv (.const (.int .i64 1)), none⟩] [4, 5])
  (.ret))
  (.skip)))
 (.seq (.seq (.reg [
     ⟨(some 14), .mv (.tmp 1), none⟩,
     ⟨(some 15), .call 44 [(.tmp 14)], none⟩,
     ⟨(some 16), .un .not (.tmp 15), none⟩] [0, 1, 16])
 (.cond (.tmp 16)
  (.seq (.reg [
      ⟨(some 4), .mv (.const (.bool false)), none⟩,
      ⟨(some 5), .mv (.const (.int .i64 2)), none⟩] [4, 5])
  (.ret))
  (.skip)))
 (.seq (.reg [
     ⟨(some 18), .mv (.tmp 0), none⟩,
     ⟨(some 19), .mv (.tmp 1), none⟩,
     ⟨(some 20), .call 39 [(.tmp 18), (.const (.int .i64 2)), (.tmp 19)], none⟩,
     ⟨(some 17), .mv (.tmp 20), none⟩,
     ⟨(some 21), .ext (.tmp 17) 0, none⟩,
     ⟨(some 22), .ext (.tmp 17) 1, none⟩,
     ⟨(some 6), .mv (.tmp 21), none⟩,
     ⟨(some 7), .mv (.tmp 22), none⟩] [0, 1, 6, 7])
 (.seq (.seq (.reg [
     ⟨(some 23), .mv (.tmp 7), none⟩,
     ⟨(some 24), .bin .neq (.tmp 23) (.const (.int .i64 0)), none⟩] [0, 1, 6, 7, 24])
 (.cond (.tmp 24)
  (.seq (.reg [
      ⟨(some 25), .mv (.tmp 7), none⟩,
      ⟨(some 4), .mv (.const (.bool false)), none⟩,
      ⟨(some 5), .mv (.tmp 25), none⟩] [4, 5])
  (.ret))
  (.skip)))
 (.seq (.seq (.reg [
     ⟨(some 26), .mv (.tmp 6), none⟩,
     ⟨(some 27), .bin .neq (.tmp 26) (.const (.int .i64 1)), none⟩] [0, 1, 27])
 (.cond (.tmp 27)
  (.seq (.reg [
      ⟨(some 4), .mv (.const (.bool false)), none⟩,
      ⟨(some 5), .mv (.const (.int .i64 0)), none⟩] [4, 5])
  (.ret))
  (.skip)))
 (.seq (.reg [
     ⟨(some 28), .mv (.tmp 0), none⟩,
     ⟨(some 29), .len (.tmp 28), none⟩,
     ⟨(some 8), .mv (.tmp 29), none⟩] [0, 1, 8])
 (.seq (.seq (.reg [
     ⟨(some 9), .mv (.const (.int .i64 0)), none⟩] [0, 1, 8, 9])
 (.block 0 (.loop [0, 1, 8, 9]
   (.seq (.seq (.reg [
       ⟨(some 30), .mv (.tmp 9), none⟩,
       ⟨(some 31), .mv (.tmp 8), none⟩,
       ⟨(some 32), .mv (.tmp 8), none⟩,
       ⟨(some 33), .bin .mul (.tmp 31) (.tmp 32), none⟩,
       ⟨(some 34), .bin .lss (.tmp 30) (.tmp 33), none⟩] [0, 1, 8, 9, 34])
   (.cond (.tmp 34)
    (.skip)
    (.exit 0)))
   (.seq (.block 1 (.seq (.seq (.reg [
        ⟨(some 37), .mv (.tmp 0), none⟩,
        ⟨(some 38), .mv (.tmp 9), none⟩,
        ⟨(some 39), .mv (.tmp 8), none⟩,
        ⟨(some 40), .bin .quo (.tmp 38) (.tmp 39), none⟩,
        ⟨(some 41), .iaddr 1 (.tmp 37) (.tmp 40), none⟩,
        ⟨(some 42), .load 1 false (.tmp 41), none⟩,
        ⟨(some 43), .mv (.tmp 9), none⟩,
        ⟨(some 44), .mv (.tmp 8), none⟩,
        ⟨(some 45), .bin .rem (.tmp 43) (.tmp 44), none⟩,
        ⟨(some 46), .iaddr 1 (.tmp 42) (.tmp 45), none⟩,
        ⟨(some 47), .load 1 false (.tmp 46), none⟩,
        ⟨(some 48), .bin .lss (.tmp 47) (.const (.int .i64 0)), none⟩] [0, 1, 8, 9, 48])
    (.cond (.tmp 48)
     (.exit 1)
     (.skip)))
    (.seq (.reg [
        ⟨(some 49), .mv (.tmp 0), none⟩,
        ⟨(some 50), .call 37 [(.tmp 49)], none⟩,
        ⟨(some 10), .mv (.tmp 50), none⟩] [0, 1, 8, 9, 10])
    (.seq (.reg [
        ⟨(some 51), .mv (.tmp 10), none⟩,
        ⟨(some 52), .mv (.tmp 9), none⟩,
        ⟨(some 53), .mv (.tmp 8), none⟩,
        ⟨(some 54), .bin .quo (.tmp 52) (.tmp 53), none⟩,
        ⟨(some 55), .iaddr 1 (.tmp 51) (.tmp 54), none⟩,
        ⟨(some 56), .load 1 false (.tmp 55), none⟩,
        ⟨(some 57), .mv (.tmp 9), none⟩,
        ⟨(some 58), .mv (.tmp 8), none⟩,
        ⟨(some 59), .bin .rem (.tmp 57) (.tmp 58), none⟩,
        ⟨(some 60), .iaddr 1 (.tmp 56) (.tmp 59), none⟩,
        ⟨none, .store 1 (.tmp 60) (.const (.int .i64 (-1))), none⟩] [0, 1, 8, 9, 10])
    (.seq (.reg [
        ⟨(some 62), .mv (.tmp 10), none⟩,
        ⟨(some 63), .mv (.tmp 1), none⟩,
        ⟨(some 64), .call 39 [(.tmp 62), (.const (.int .i64 2)), (.tmp 63)], none⟩,
        ⟨(some 61), .mv (.tmp 64), none⟩,
        ⟨(some 65), .ext (.tmp 61) 0, none⟩,
        ⟨(some 66), .ext (.tmp 61) 1, none⟩,
        ⟨(some 6), .mv (.tmp 65), none⟩,
        ⟨(some 7), .mv (.tmp 66), none⟩] [0, 1, 6, 7, 8, 9])
    (.seq (.seq (.reg [
        ⟨(some 67), .mv (.tmp 7), none⟩,
        ⟨(some 68), .bin .neq (.tmp 67) (.const (.int .i64 0)), none⟩] [0, 1, 6, 7, 8, 9, 68])
    (.cond (.tmp 68)
     (.seq (.reg [
         ⟨(some 69), .mv (.tmp 7), none⟩,
         ⟨(some 4), .mv (.const (.bool false)), none⟩,
         ⟨(some 5), .mv (.tmp 69), none⟩] [4, 5])
     (.ret))
     (.skip)))
    (.seq (.reg [
        ⟨(some 70), .mv (.tmp 6), none⟩,
        ⟨(some 71), .bin .lss (.tmp 70) (.const (.int .i64 2)), none⟩] [0, 1, 8, 9, 71])
    (.cond (.tmp 71)
     (.seq (.reg [
         ⟨(some 4), .mv (.const (.bool false)), none⟩,
         ⟨(some 5), .mv (.const (.int .i64 0)), none⟩] [4, 5])
     (.ret))
     (.skip)))))))))
   (.reg [
       ⟨(some 35), .mv (.tmp 9), none⟩,
       ⟨(some 36), .bin .add (.tmp 35) (.const (.int .i64 1)), none⟩,
       ⟨(some 9), .mv (.tmp 36), none⟩] [0, 1, 8, 9]))))))
 (.seq (.reg [
     ⟨(some 4), .mv (.const (.bool true)), none⟩,
     ⟨(some 5), .mv (.const (.int .i64 0)), none⟩] [4, 5])
 (.ret)))))))))
theorem s_spec_IsCritical : stripF Try.prog 11 [[0, 1], [0, 1, 13], [4, 5], [0, 1, 16], [4, 5], [0, 1, 6, 7], [0, 1, 6, 7, 24], [4, 5], [0, 1, 27], [4, 5], [0, 1, 8], [0, 1, 8, 9], [0, 1, 8, 9], [0, 1, 8, 9, 34], [0, 1, 8, 9, 48], [0, 1, 8, 9, 10], [0, 1, 8, 9, 10], [0, 1, 6, 7, 8, 9], [0, 1, 6, 7, 8, 9, 68], [4, 5], [0, 1, 8, 9, 71], [4, 5], [0, 1, 8, 9], [4, 5]] = some (c_spec_IsCritical, [.tmp 4, .tmp 5], 72) := by kernel_rfl
abbrev f_impl_ClearCells : Nat := 14
def c_impl_ClearCells : SC :=
 .seq (.reg [
     ⟨(some 4), .mv (.const (.slice none 0 0)), none⟩,
     ⟨(some 5), .mv (.const (.int .i64 0)), none⟩] [0, 1])
 (.seq (.seq (.reg [
     ⟨(some 10), .mv (.tmp 0), none⟩,
     ⟨(some 11), .call 19 [(.tmp 10)], none⟩,
     ⟨(some 12), .un .not (.tmp 11), none⟩] [0, 1, 12])
 (.cond (.tmp 12)
  (.seq (.reg [
      ⟨(some 4), .mv (.const (.slice none 0 0)), none⟩,
      ⟨(some 5), .mv (.const (.int .i64 1)), none⟩] [4, 5])
  (.ret))
  (.skip)))
 (.seq (.reg [
     ⟨(some 13), .mv (.tmp 0), none⟩,
     ⟨(some 14), .call 42 [(.tmp 13)], none⟩,
     ⟨(some 6), .mv (.tmp 14), none⟩] [0, 1, 6])
 (.seq (.reg [
     ⟨(some 15), .mv (.tmp 0), none⟩,
     ⟨(some 16), .call 47 [(.tmp 15)], none⟩,
     ⟨(some 7), .mv (.tmp 16), none⟩] [1, 6, 7])
 (.seq (.seq (.reg [
     ⟨(some 17), .mv (.tmp 1), none⟩,
     ⟨(some 18), .len (.tmp 17), none⟩,
     ⟨(some 19), .mv (.const (.int .i64 0)), none⟩] [6, 7, 17, 18, 19])
 (.block 0 (.loop [6, 7, 17, 18, 19]
   (.seq (.reg [
       ⟨(some 20), .bin .lss (.tmp 19) (.tmp 18), none⟩] [6, 7, 17, 18, 19, 20])
   (.seq (.cond (.tmp 20)
    (.skip)
    (.exit 0))
   (.seq (.block 1 (.seq (.reg [
        ⟨(some 21), .iaddr 1 (.tmp 17) (.tmp 19), none⟩,
        ⟨(some 22), .load 1 false (.tmp 21), none⟩,
        ⟨(some 9), .mv (.tmp 22), none⟩] [6, 7, 9, 17, 18, 19])
    (.seq (.seq (.reg [
        ⟨(some 23), .mv (.tmp 9), none⟩,
        ⟨(some 24), .mv (.tmp 6), none⟩,
        ⟨(some 25), .mv (.tmp 6), none⟩,
        ⟨(some 26), .bin .mul (.tmp 24) (.tmp 25), none⟩,
        ⟨(some 27), .bin .sub (.tmp 26) (.const (.int .i64 1)), none⟩,
        ⟨(some 28), .call 45 [(.tmp 23), (.const (.int .i64 0)), (.tmp 27)], none⟩,
        ⟨(some 29), .un .not (.tmp 28), none⟩] [6, 7, 9, 17, 18, 19, 29])
    (.cond (.tmp 29)
     (.seq (.reg [
         ⟨(some 4), .mv (.const (.slice none 0 0)), none⟩,
         ⟨(some 5), .mv (.const (.int .i64 2)), none⟩] [4, 5])
     (.ret))
     (.skip)))
    (.reg [
        ⟨(some 30), .mv (.tmp 7), none⟩,
        ⟨(some 31), .mv (.tmp 9), none⟩,
        ⟨(some 32), .mv (.tmp 6), none⟩,
        ⟨(some 33), .bin .quo (.tmp 31) (.tmp 32), none⟩,
        ⟨(some 34), .iaddr 1 (.tmp 30) (.tmp 33), none⟩,
        ⟨(some 35), .load 1 false (.tmp 34), none⟩,
        ⟨(some 36), .mv (.tmp 9), none⟩,
        ⟨(some 37), .mv (.tmp 6), none⟩,
        ⟨(some 38), .bin .rem (.tmp 36) (.tmp 37), none⟩,
        ⟨(some 39), .iaddr 1 (.tmp 35) (.tmp 38), none⟩,
        ⟨none, .store 1 (.tmp 39) (.const (.int .i64 (-1))), none⟩] [6, 7, 17, 18, 19]))))
   (.reg [
       ⟨(some 40), .bin .add (.tmp 19) (.const (.int .i64 1)), none⟩,
       ⟨(some 19), .mv (.tmp 40), none⟩] [6, 7, 17, 18, 19])))))))
 (.seq (.reg [
     ⟨(some 41), .mv (.tmp 7), none⟩,
     ⟨(some 4), .mv (.tmp 41), none⟩,
     ⟨(some 5), .mv (.const (.int .i64 0)), none⟩] [4, 5])
 (.ret))))))
theorem s_impl_ClearCells : stripF Try.prog 14 [[0, 1], [0, 1, 12], [4, 5], [0, 1, 6], [1, 6, 7], [6, 7, 17, 18, 19], [6, 7, 17, 18, 19], [6, 7, 17, 18, 19, 20], [6, 7, 9, 17, 18, 19], [6, 7, 9, 17, 18, 19, 29], [4, 5], [6, 7, 17, 18, 19], [6, 7, 17, 18, 19], [4, 5]] = some (c_impl_ClearCells, [.tmp 4, .tmp 5], 42) := by kernel_rfl
theorem setC_self {sq : List (List Int)} {x y : Nat} {v : Int} (hx : x < sq.length) (hy : y < (sq.getD x []).length) : cellAt (setC sq x y v) x y = v := by
  unfold cellAt setC
  have e : (sq.set x ((sq.getD x []).set y v)).getD x [] = (sq.getD x []).set y v := by simp [List.getD_eq_getElem?_getD, hx]
  rw [e, List.getD_eq_getElem?_getD, List.getElem?_set_self hy]; rfl
theorem partB_iff (p : List (List Int)) : partB p = true ↔ (1 ≤ p.length ∧ p.length ≤ 10) ∧ (∀ r ∈ p, r.length = p.length) ∧ ∀ x y, x < p.length → y < p.length → okS p x y := by
  constructor
  · intro h
    have hf := partB_facts h
    refine ⟨⟨hf.1, hf.2.1⟩, hf.2.2, (ok_all p hf.2.2).1 ?_⟩
    simp only [partB, Bool.and_eq_true, decide_eq_true_eq, List.all_eq_true, List.mem_range] at h
    exact fun x y hx hy => h.2 x hx y hy
  · rintro ⟨h1, h2, h3⟩
    have h4 := (ok_all p h2).2 h3
    simp only [partB, Bool.and_eq_true, decide_eq_true_eq, List.all_eq_true, List.mem_range]
    exact ⟨⟨⟨h1.1, h1.2⟩, h2⟩, fun x hx y hy => h4 x y hx hy⟩
theorem partB_clear {p : List (List Int)} (h : partB p = true) {x y : Nat} (hx : x < p.length) (hy : y < p.length) : partB (setC p x y (-1)) = true := by
  rw [partB_iff] at h ⊢
  obtain ⟨h1, h2, h3⟩ := h
  have hs := setC_ok (v := -1) (x := x) (y := y) (⟨rfl, h2⟩ : p.length = p.length ∧ ∀ r ∈ p, r.length = p.length)
  rw [hs.1]
  refine ⟨h1, hs.2, fun a b ha hb => ?_⟩
  have hxl : (p.getD x []).length = p.length := h2 _ (by rw [getD_get hx]; exact List.getElem_mem _)
  have cell : ∀ a b, cellAt (setC p x y (-1)) a b = -1 ∨ cellAt (setC p x y (-1)) a b = cellAt p a b := by
    intro a b
    by_cases hab : a = x ∧ b = y
    · obtain ⟨rfl, rfl⟩ := hab; exact .inl (setC_self hx (by omega))
    · exact .inr (setC_get hab)
  have hab := h3 a b ha hb
  unfold okS
  rw [hs.1]
  rcases cell a b with e | e
  · rw [e]; exact ⟨by omega, fun h => by omega⟩
  · rw [e]
    refine ⟨hab.1, fun h0 k hk => ⟨fun hne => ?_, fun hne => ?_⟩⟩
    · rcases cell a k with e2 | e2
      · rw [e2]; omega
      · rw [e2]; exact (hab.2 h0 k hk).1 hne
    · rcases cell k b with e2 | e2
      · rw [e2]; omega
      · rw [e2]; exact (hab.2 h0 k hk).2 hne
def cc2 (q : List (List Int)) (b : Nat) : Int × Int := if (outS q.length 2 q b).spent then (0, 5) else (((outS q.length 2 q b).count : Int), 0)
theorem cc2_le (q : List (List Int)) (b : Nat) : (cc2 q b).1 ≤ 2 ∧ 0 ≤ (cc2 q b).1 := by
  have := (outS_good q.length 2 q b (by omega)).1
  unfold cc2
  split
  · exact ⟨by show (0 : Int) ≤ 2; omega, by show (0 : Int) ≤ 0; omega⟩
  · exact ⟨by show ((outS q.length 2 q b).count : Int) ≤ 2; omega, by show (0 : Int) ≤ ((outS q.length 2 q b).count : Int); omega⟩
def critL (p : List (List Int)) (b : Nat) : List Nat → Bool × Int
  | [] => (true, 0)
  | c :: cs => if cellAt p (c / p.length) (c % p.length) = -1 then critL p b cs else
      if (cc2 (setC p (c / p.length) (c % p.length) (-1)) b).2 ≠ 0 ∨ (cc2 (setC p (c / p.length) (c % p.length) (-1)) b).1 ≠ 2 then (false, (cc2 (setC p (c / p.length) (c % p.length) (-1)) b).2) else critL p b cs
def icV (p : List (List Int)) (b : Int) : Bool × Int :=
  if !partB p then (false, 1) else if !(decide (1 ≤ b) && decide (b ≤ 20000)) then (false, 2) else
    if (cc2 p b.toNat).2 ≠ 0 ∨ (cc2 p b.toNat).1 ≠ 1 then (false, (cc2 p b.toNat).2) else critL p b.toNat (List.range (p.length * p.length))
theorem ccV_2 {p : List (List Int)} (h : partB p = true) {b : Nat} (hb : 1 ≤ b ∧ b ≤ 20000) : ccV p 2 b = cc2 p b := by
  unfold ccV cc2
  rw [h, show (decide ((1 : Int) ≤ b) && decide ((b : Int) ≤ 20000)) = true by simp; omega]
  rfl
theorem FSS.lendf {P : Program} {f : FuncId} {args args' : List AV} {xss : List (List Int)} {code : Int} (h : FSS P f args' xss code) {H : List Blk} (hf : Frozs H args args') : ACalls P f args H fun r H' => r = .tup [ilSS xss, I code] ∧ H' = H := by
  refine (h.lend hf).gr ?_
  rintro r H' ⟨ext, v, rfl, rfl, ho⟩
  exact GR.froz (froz_tup2 (ho.froz (fun i hi => hi.1)) (froz_I' _)) ⟨rfl, rfl⟩
theorem ClearCells_fss (p : List (List Int)) (c : Nat) (h : partB p = true) (hc : c < p.length * p.length) : FSS Try.prog f_impl_ClearCells [ilSS p, ilS [(c : Int)]] (setC p (c / p.length) (c % p.length) (-1)) 0 := by
  have hv := ValidPartial_fn p
  rw [h] at hv
  have hf := partB_facts h
  have hx : c / p.length < p.length := Nat.div_lt_of_lt_mul hc
  have hy : c % p.length < p.length := Nat.mod_lt _ (by omega)
  have hd1 : (c : Int).tdiv p.length = ((c / p.length : Nat) : Int) := (Int.ofNat_tdiv c p.length).symm
  have hd2 : (c : Int).tmod p.length = ((c % p.length : Nat) : Int) := (Int.ofNat_tmod c p.length).symm
  have hnn : p.length * p.length ≤ 10 * 10 := Nat.mul_le_mul hf.2.1 hf.2.1
  generalize c / p.length = x at *
  generalize c % p.length = y at *
  intro H
  refine ACalls.introB s_impl_ClearCells (by simp) ?_; intro hB hA; unfold c_impl_ClearCells; simp (config := { maxSteps := 1000000 }) (disch := (first | omega | (simp only [go_sem]; try omega))) only [go_sem, Nat.reduceAdd, Nat.reduceEqDiff, Nat.reduceLeDiff, Nat.reduceMul, Nat.reduceLT, reduceIte, Int.reduceToNat, w64_id, cast_succ]
  repeat (first | (with_reducible first | refine SW.seq ?_ | refine SW.block ?_ | refine SW.rowC ?_ | refine SW.skip ?_ | refine SW.exit ?_ | refine PFn.use (hv) ?_ | refine PFn.useq (hv) ?_ | intro _ | refine And.intro (by omega) ?_) | simp (config := { maxSteps := 1000000 }) (disch := (first | omega | (simp only [go_sem]; try omega))) only [go_sem, Nat.reduceAdd, Nat.reduceEqDiff, Nat.reduceLeDiff, Nat.reduceMul, Nat.reduceLT, reduceIte, Int.reduceToNat, w64_id, cast_succ])
  refine SW.condF rfl ?_
  repeat (first | (with_reducible first | refine SW.seq ?_ | refine SW.block ?_ | refine SW.rowC ?_ | refine SW.skip ?_ | refine SW.exit ?_ | refine PFn.use (sizeS_fn _) ?_ | refine PFn.useq (sizeS_fn _) ?_ | intro _ | refine And.intro (by omega) ?_) | simp (config := { maxSteps := 1000000 }) (disch := (first | omega | (simp only [go_sem]; try omega))) only [go_sem, Nat.reduceAdd, Nat.reduceEqDiff, Nat.reduceLeDiff, Nat.reduceMul, Nat.reduceLT, reduceIte, Int.reduceToNat, w64_id, cast_succ])
  refine (copyLists_sq _ _ p.length p (rd_ilSS _ _) (by omega) (fun r hr => ⟨fun h => by have := hf.2.2 r hr; rw [h] at this; simp at this; omega, by have := hf.2.2 r hr; omega⟩)).mono ?_
  rintro r H1 ⟨rfl, rfl⟩
  repeat (first | (with_reducible first | refine SW.seq ?_ | refine SW.block ?_ | refine SW.rowC ?_ | refine SW.skip ?_ | refine SW.exit ?_ | intro _ | refine And.intro (by omega) ?_) | simp (config := { maxSteps := 1000000 }) (disch := (first | omega | (simp only [go_sem]; try omega))) only [go_sem, Nat.reduceAdd, Nat.reduceEqDiff, Nat.reduceLeDiff, Nat.reduceMul, Nat.reduceLT, reduceIte, Int.reduceToNat, w64_id, cast_succ])
  have hsq : p.length = p.length ∧ ∀ r ∈ p, r.length = p.length := ⟨rfl, hf.2.2⟩
  have hsq2 := setC_ok (v := -1) (x := x) (y := y) hsq
  have hn0 : (p.length : Int) ≠ 0 := by omega
  have hw1 : w64 (x : Int) = x := w64_id (by omega) (by omega)
  have hw2 : w64 ((p.length : Int) * p.length) = ((p.length * p.length : Nat) : Int) := by rw [← Int.natCast_mul]; exact w64_id (by omega) (by omega)
  have hrowl : (p.getD x []).length = p.length := hf.2.2 _ (by rw [getD_get hx]; exact List.getElem_mem _)
  have htk : ((p.getD x []).map I).take p.length = (p.getD x []).map I := List.take_of_length_le (by simp only [List.length_map]; omega)
  have t0 := q0 (H := H) (n := p.length) (sq := p) (ext := [])
  have t1 := qtake (H := H) hsq.1
  have t2 := qcell (H := H) hsq hx
  have t3 := qrow (H := H) (ext := []) hsq.1 hx
  have t4 := qset (H := H) (ext := []) (y := y) hsq.1 hx (-1)
  rw [List.append_nil] at t0 t3
  simp only [List.append_nil] at t4
  refine SW.loopE (fun E0 H0 q E' H' => ∃ i : Nat, i ≤ 1 ∧ q = 1 - i ∧ E' = aput E0 19 (I i) ∧ H' = H ++ sqB p.length 1 H.length (if i = 0 then p else setC p x y (-1))) 1 ⟨0, by omega, by omega, rfl, rfl⟩ ?_
  rintro q E' H' ⟨i, hi, rfl, rfl, rfl⟩
  simp (config := { maxSteps := 1000000 }) (disch := (first | omega | (simp only [go_sem]; try omega))) only [go_sem, Nat.reduceAdd, Nat.reduceEqDiff, Nat.reduceLeDiff, Nat.reduceMul, Nat.reduceLT, reduceIte, Int.reduceToNat, w64_id, cast_succ]
  repeat (first | (with_reducible first | refine SW.seq ?_ | refine SW.block ?_ | refine SW.rowC ?_ | refine SW.skip ?_ | refine SW.exit ?_ | intro _ | refine And.intro (by omega) ?_) | simp (config := { maxSteps := 1000000 }) (disch := (first | omega | (simp only [go_sem]; try omega))) only [go_sem, Nat.reduceAdd, Nat.reduceEqDiff, Nat.reduceLeDiff, Nat.reduceMul, Nat.reduceLT, reduceIte, Int.reduceToNat, w64_id, cast_succ])
  (first | refine SW.condD rfl (fun h1 => ?_) (fun h1 => ?_) | refine SW.condN rfl (fun h1 => ?_) (fun h1 => ?_) | refine SW.condNB rfl (fun h1 => ?_) (fun h1 => ?_) | refine SW.condB rfl (fun h1 => ?_) (fun h1 => ?_))
  · obtain rfl : i = 0 := by omega
    have hg0 : [(c : Int)].getD 0 0 = (c : Int) := rfl
    have hin : (decide (0 ≤ (c : Int)) && decide ((c : Int) ≤ (p.length : Int) * p.length - 1)) = true := by
      rw [← Int.natCast_mul]; simp; omega
    rw [if_pos rfl]
    repeat (first | (with_reducible first | refine SW.seq ?_ | refine SW.block ?_ | refine SW.rowC ?_ | refine SW.skip ?_ | refine SW.exit ?_ | refine PFn.use (within_fn _ _ _) ?_ | refine PFn.useq (within_fn _ _ _) ?_ | intro _ | refine And.intro (by omega) ?_) | simp (config := { maxSteps := 1000000 }) (disch := (first | omega | (simp only [go_sem]; try omega))) only [go_sem, Nat.reduceAdd, Nat.reduceEqDiff, Nat.reduceLeDiff, Nat.reduceMul, Nat.reduceLT, reduceIte, Int.reduceToNat, w64_id, cast_succ, hg0, hw2, hin, hd1, hd2, hn0, hw1, t0, t1, t2, t3, t4, hrowl, htk])
    refine SW.condF rfl ?_
    repeat (first | (with_reducible first | refine SW.seq ?_ | refine SW.block ?_ | refine SW.rowC ?_ | refine SW.skip ?_ | refine SW.exit ?_ | intro _ | refine And.intro (by omega) ?_) | simp (config := { maxSteps := 1000000 }) (disch := (first | omega | (simp only [go_sem]; try omega))) only [go_sem, Nat.reduceAdd, Nat.reduceEqDiff, Nat.reduceLeDiff, Nat.reduceMul, Nat.reduceLT, reduceIte, Int.reduceToNat, w64_id, cast_succ, hg0, hw2, hin, hd1, hd2, hn0, hw1, t0, t1, t2, t3, t4, hrowl, htk])
    refine SLoop.next 0 (by omega) ⟨1, by omega, rfl, ?_, ?_⟩
    · simp [go_sem]
    · rw [if_neg (by omega)]
  · obtain rfl : i = 1 := by omega
    rw [if_neg (by omega)]
    repeat (first | (with_reducible first | refine SW.seq ?_ | refine SW.block ?_ | refine SW.rowC ?_ | refine SW.skip ?_ | refine SW.exit ?_ | intro _ | refine And.intro (by omega) ?_) | simp (config := { maxSteps := 1000000 }) (disch := (first | omega | (simp only [go_sem]; try omega))) only [go_sem, Nat.reduceAdd, Nat.reduceEqDiff, Nat.reduceLeDiff, Nat.reduceMul, Nat.reduceLT, reduceIte, Int.reduceToNat, w64_id, cast_succ])
    refine SW.ret ?_; (try simp only [go_sem]); (first | refine FunPost.one ?_ | refine FunPost.two ?_ | refine FunPost.three ?_); (try simp (config := { maxSteps := 1000000 }) (disch := (first | omega | (simp only [go_sem]; try omega))) only [go_sem, Nat.reduceAdd, Nat.reduceEqDiff, Nat.reduceLeDiff, Nat.reduceMul, Nat.reduceLT, reduceIte, Int.reduceToNat, w64_id, cast_succ])
    refine GR.of ⟨_, _, rfl, rfl, ?_⟩
    have := sq_own (b := H.length) (Hb := H) (v := p.length) (w := 1) (xss := setC p x y (-1)) (ext := []) (Nat.le_refl _)
    rw [hsq2.1, List.append_nil] at this
    exact this
theorem critL_drop {p : List (List Int)} {b c : Nat} (h : c < p.length * p.length) : critL p b ((List.range (p.length * p.length)).drop c) = if cellAt p (c / p.length) (c % p.length) = -1 then critL p b ((List.range (p.length * p.length)).drop (c + 1)) else
      if (cc2 (setC p (c / p.length) (c % p.length) (-1)) b).2 ≠ 0 ∨ (cc2 (setC p (c / p.length) (c % p.length) (-1)) b).1 ≠ 2 then (false, (cc2 (setC p (c / p.length) (c % p.length) (-1)) b).2) else critL p b ((List.range (p.length * p.length)).drop (c + 1)) := by
  rw [List.drop_eq_getElem_cons (by simpa using h), List.getElem_range]; rfl
theorem implIsCritical_fn (p : List (List Int)) (b : Int) : PFn Try.prog f_impl_IsCritical [ilSS p, I b] (.tup [Bv (icV p b).1, I (icV p b).2]) := by
  have hv := ValidPartial_fn p
  have hcc := fun q => implCount_fn q 2 b
  intro H; refine ACalls.introB s_impl_IsCritical (by simp) ?_; intro hB hA; unfold c_impl_IsCritical; simp (config := { maxSteps := 1000000 }) (disch := (first | omega | (simp only [go_sem]; try omega))) only [go_sem, Nat.reduceAdd, Nat.reduceEqDiff, Nat.reduceLeDiff, Nat.reduceMul, Nat.reduceLT, reduceIte, Int.reduceToNat, w64_id, cast_succ]
  repeat (first | (with_reducible first | refine SW.seq ?_ | refine SW.block ?_ | refine SW.rowC ?_ | refine SW.skip ?_ | refine SW.exit ?_ | refine PFn.use (hv) ?_ | refine PFn.useq (hv) ?_ | intro _ | refine And.intro (by omega) ?_) | simp (config := { maxSteps := 1000000 }) (disch := (first | omega | (simp only [go_sem]; try omega))) only [go_sem, Nat.reduceAdd, Nat.reduceEqDiff, Nat.reduceLeDiff, Nat.reduceMul, Nat.reduceLT, reduceIte, Int.reduceToNat, w64_id, cast_succ])
  (first | refine SW.condD rfl (fun h => ?_) (fun h => ?_) | refine SW.condN rfl (fun h => ?_) (fun h => ?_) | refine SW.condNB rfl (fun h => ?_) (fun h => ?_) | refine SW.condB rfl (fun h => ?_) (fun h => ?_))
  · rw [icV, h]
    repeat (first | (with_reducible first | refine SW.seq ?_ | refine SW.block ?_ | refine SW.rowC ?_ | refine SW.skip ?_ | refine SW.exit ?_ | intro _ | refine And.intro (by omega) ?_) | simp (config := { maxSteps := 1000000 }) (disch := (first | omega | (simp only [go_sem]; try omega))) only [go_sem, Nat.reduceAdd, Nat.reduceEqDiff, Nat.reduceLeDiff, Nat.reduceMul, Nat.reduceLT, reduceIte, Int.reduceToNat, w64_id, cast_succ])
    refine SW.ret ?_; (try simp only [go_sem]); (first | refine FunPost.one ?_ | refine FunPost.two ?_ | refine FunPost.three ?_); (try simp (config := { maxSteps := 1000000 }) (disch := (first | omega | (simp only [go_sem]; try omega))) only [go_sem, Nat.reduceAdd, Nat.reduceEqDiff, Nat.reduceLeDiff, Nat.reduceMul, Nat.reduceLT, reduceIte, Int.reduceToNat, w64_id, cast_succ]); (first | (with_reducible refine GR.drop ?_ ?_; (simp only [go_sem, and_self, and_true, true_and, implies_true, List.take_succ_cons, List.take_zero])) | refine GR.of ?_); refine ⟨?_, rfl⟩; (try with_reducible rfl)
  have hf := partB_facts h
  rw [icV, h]
  repeat (first | (with_reducible first | refine SW.seq ?_ | refine SW.block ?_ | refine SW.rowC ?_ | refine SW.skip ?_ | refine SW.exit ?_ | refine PFn.use (isBudget_fn _) ?_ | refine PFn.useq (isBudget_fn _) ?_ | intro _ | refine And.intro (by omega) ?_) | simp (config := { maxSteps := 1000000 }) (disch := (first | omega | (simp only [go_sem]; try omega))) only [go_sem, Nat.reduceAdd, Nat.reduceEqDiff, Nat.reduceLeDiff, Nat.reduceMul, Nat.reduceLT, reduceIte, Int.reduceToNat, w64_id, cast_succ])
  (first | refine SW.condD rfl (fun h1 => ?_) (fun h1 => ?_) | refine SW.condN rfl (fun h1 => ?_) (fun h1 => ?_) | refine SW.condNB rfl (fun h1 => ?_) (fun h1 => ?_) | refine SW.condB rfl (fun h1 => ?_) (fun h1 => ?_))
  · rw [h1]
    repeat (first | (with_reducible first | refine SW.seq ?_ | refine SW.block ?_ | refine SW.rowC ?_ | refine SW.skip ?_ | refine SW.exit ?_ | intro _ | refine And.intro (by omega) ?_) | simp (config := { maxSteps := 1000000 }) (disch := (first | omega | (simp only [go_sem]; try omega))) only [go_sem, Nat.reduceAdd, Nat.reduceEqDiff, Nat.reduceLeDiff, Nat.reduceMul, Nat.reduceLT, reduceIte, Int.reduceToNat, w64_id, cast_succ])
    refine SW.ret ?_; (try simp only [go_sem]); (first | refine FunPost.one ?_ | refine FunPost.two ?_ | refine FunPost.three ?_); (try simp (config := { maxSteps := 1000000 }) (disch := (first | omega | (simp only [go_sem]; try omega))) only [go_sem, Nat.reduceAdd, Nat.reduceEqDiff, Nat.reduceLeDiff, Nat.reduceMul, Nat.reduceLT, reduceIte, Int.reduceToNat, w64_id, cast_succ]); (first | (with_reducible refine GR.drop ?_ ?_; (simp only [go_sem, and_self, and_true, true_and, implies_true, List.take_succ_cons, List.take_zero])) | refine GR.of ?_); refine ⟨?_, rfl⟩; (try with_reducible rfl)
  rw [h1]
  have hb := h1
  simp only [Bool.and_eq_true, decide_eq_true_eq] at hb
  obtain ⟨b, rfl⟩ := Int.eq_ofNat_of_zero_le (show 0 ≤ b by omega)
  have hnn : p.length * p.length ≤ 10 * 10 := Nat.mul_le_mul hf.2.1 hf.2.1
  have hn0 : (p.length : Int) ≠ 0 := by omega
  have hw2 : w64 ((p.length : Int) * p.length) = ((p.length * p.length : Nat) : Int) := by rw [← Int.natCast_mul]; exact w64_id (by omega) (by omega)
  have hcp := hcc p
  rw [ccV_2 h (by omega)] at hcp
  have hle := cc2_le p b
  generalize hcd : cc2 p b = r0 at *
  obtain ⟨k1, k2⟩ := r0
  simp only at hcp
  by_cases hbad : k2 ≠ 0 ∨ k1 ≠ 1
  · by_cases h2 : k2 = 0
    · have h3 : ¬ k1 = 1 := by rcases hbad with h4 | h4 <;> omega
      subst h2
      repeat (first | (with_reducible first | refine SW.seq ?_ | refine SW.block ?_ | refine SW.rowC ?_ | refine SW.skip ?_ | refine SW.exit ?_ | refine PFn.use (hcp) ?_ | refine PFn.useq (hcp) ?_ | intro _ | refine And.intro (by omega) ?_) | simp (config := { maxSteps := 1000000 }) (disch := (first | omega | (simp only [go_sem]; try omega))) only [go_sem, Nat.reduceAdd, Nat.reduceEqDiff, Nat.reduceLeDiff, Nat.reduceMul, Nat.reduceLT, reduceIte, Int.reduceToNat, w64_id, cast_succ, h3])
      refine SW.condT rfl ?_
      repeat (first | (with_reducible first | refine SW.seq ?_ | refine SW.block ?_ | refine SW.rowC ?_ | refine SW.skip ?_ | refine SW.exit ?_ | intro _ | refine And.intro (by omega) ?_) | simp (config := { maxSteps := 1000000 }) (disch := (first | omega | (simp only [go_sem]; try omega))) only [go_sem, Nat.reduceAdd, Nat.reduceEqDiff, Nat.reduceLeDiff, Nat.reduceMul, Nat.reduceLT, reduceIte, Int.reduceToNat, w64_id, cast_succ])
      refine SW.ret ?_; (try simp only [go_sem]); (first | refine FunPost.one ?_ | refine FunPost.two ?_ | refine FunPost.three ?_); (try simp (config := { maxSteps := 1000000 }) (disch := (first | omega | (simp only [go_sem]; try omega))) only [go_sem, Nat.reduceAdd, Nat.reduceEqDiff, Nat.reduceLeDiff, Nat.reduceMul, Nat.reduceLT, reduceIte, Int.reduceToNat, w64_id, cast_succ]); (first | (with_reducible refine GR.drop ?_ ?_; (simp only [go_sem, and_self, and_true, true_and, implies_true, List.take_succ_cons, List.take_zero])) | refine GR.of ?_); refine ⟨?_, rfl⟩; (try with_reducible rfl)
      rw [hcd, if_pos (.inr h3)]
    · repeat (first | (with_reducible first | refine SW.seq ?_ | refine SW.block ?_ | refine SW.rowC ?_ | refine SW.skip ?_ | refine SW.exit ?_ | refine PFn.use (hcp) ?_ | refine PFn.useq (hcp) ?_ | intro _ | refine And.intro (by omega) ?_) | simp (config := { maxSteps := 1000000 }) (disch := (first | omega | (simp only [go_sem]; try omega))) only [go_sem, Nat.reduceAdd, Nat.reduceEqDiff, Nat.reduceLeDiff, Nat.reduceMul, Nat.reduceLT, reduceIte, Int.reduceToNat, w64_id, cast_succ, h2])
      refine SW.condT rfl ?_
      repeat (first | (with_reducible first | refine SW.seq ?_ | refine SW.block ?_ | refine SW.rowC ?_ | refine SW.skip ?_ | refine SW.exit ?_ | intro _ | refine And.intro (by omega) ?_) | simp (config := { maxSteps := 1000000 }) (disch := (first | omega | (simp only [go_sem]; try omega))) only [go_sem, Nat.reduceAdd, Nat.reduceEqDiff, Nat.reduceLeDiff, Nat.reduceMul, Nat.reduceLT, reduceIte, Int.reduceToNat, w64_id, cast_succ])
      refine SW.ret ?_; (try simp only [go_sem]); (first | refine FunPost.one ?_ | refine FunPost.two ?_ | refine FunPost.three ?_); (try simp (config := { maxSteps := 1000000 }) (disch := (first | omega | (simp only [go_sem]; try omega))) only [go_sem, Nat.reduceAdd, Nat.reduceEqDiff, Nat.reduceLeDiff, Nat.reduceMul, Nat.reduceLT, reduceIte, Int.reduceToNat, w64_id, cast_succ]); (first | (with_reducible refine GR.drop ?_ ?_; (simp only [go_sem, and_self, and_true, true_and, implies_true, List.take_succ_cons, List.take_zero])) | refine GR.of ?_); refine ⟨?_, rfl⟩; (try with_reducible rfl)
      rw [hcd, if_pos (.inl h2)]
  have h2 : k2 = 0 := Decidable.byContradiction fun h => hbad (.inl h)
  have h3 : k1 = 1 := Decidable.byContradiction fun h => hbad (.inr h)
  subst h2; subst h3
  have hpost : (if ((0 : Int) ≠ 0 ∨ (1 : Int) ≠ 1) then ((false, 0) : Bool × Int) else critL p b (List.range (p.length * p.length))) = critL p b (List.range (p.length * p.length)) := by rw [if_neg (by simp)]
  repeat (first | (with_reducible first | refine SW.seq ?_ | refine SW.block ?_ | refine SW.rowC ?_ | refine SW.skip ?_ | refine SW.exit ?_ | refine PFn.use (hcp) ?_ | refine PFn.useq (hcp) ?_ | intro _ | refine And.intro (by omega) ?_) | simp (config := { maxSteps := 1000000 }) (disch := (first | omega | (simp only [go_sem]; try omega))) only [go_sem, Nat.reduceAdd, Nat.reduceEqDiff, Nat.reduceLeDiff, Nat.reduceMul, Nat.reduceLT, reduceIte, Int.reduceToNat, w64_id, cast_succ])
  refine SW.condF rfl ?_
  have hcN : ¬ (¬(cc2 p b).2 = 0 ∨ ¬(cc2 p b).1 = 1) := by rw [hcd]; simp
  rw [if_neg hcN]
  clear hcN hbad
  generalize hR : critL p b (List.range (p.length * p.length)) = R
  repeat (first | (with_reducible first | refine SW.seq ?_ | refine SW.block ?_ | refine SW.rowC ?_ | refine SW.skip ?_ | refine SW.exit ?_ | refine PFn.use (sizeS_fn _) ?_ | refine PFn.useq (sizeS_fn _) ?_ | intro _ | refine And.intro (by omega) ?_) | simp (config := { maxSteps := 1000000 }) (disch := (first | omega | (simp only [go_sem]; try omega))) only [go_sem, Nat.reduceAdd, Nat.reduceEqDiff, Nat.reduceLeDiff, Nat.reduceMul, Nat.reduceLT, reduceIte, Int.reduceToNat, w64_id, cast_succ])
  refine SW.loopE (fun E0 H0 q E' H' => ∃ c : Nat, c ≤ p.length * p.length ∧ q = p.length * p.length - c ∧ E' = aput E0 9 (I c) ∧ H' = H0 ∧ critL p b ((List.range (p.length * p.length)).drop c) = R) (p.length * p.length) ⟨0, by omega, by omega, rfl, rfl, hR⟩ ?_
  rintro q E' H' ⟨c, hc, rfl, rfl, rfl, hcr⟩
  rcases Nat.lt_or_eq_of_le hc with hclt | hceq
  · have hx : c / p.length < p.length := Nat.div_lt_of_lt_mul hclt
    have hy : c % p.length < p.length := Nat.mod_lt _ (by omega)
    have hd1 : (c : Int).tdiv p.length = ((c / p.length : Nat) : Int) := (Int.ofNat_tdiv c p.length).symm
    have hd2 : (c : Int).tmod p.length = ((c % p.length : Nat) : Int) := (Int.ofNat_tmod c p.length).symm
    have hcrd := critL_drop (b := b) hclt
    rw [hcr] at hcrd
    have hclr := ClearCells_fss p c h hclt
    have hpc := partB_clear h hx hy
    have hlen2 := (setC_ok (v := -1) (x := c / p.length) (y := c % p.length) (⟨rfl, hf.2.2⟩ : p.length = p.length ∧ ∀ r ∈ p, r.length = p.length)).1
    have hcq := hcc (setC p (c / p.length) (c % p.length) (-1))
    rw [ccV_2 hpc (by omega)] at hcq
    have hclI : (c : Int) < (p.length : Int) * p.length := by rw [← Int.natCast_mul]; omega
    generalize c / p.length = x at *
    generalize c % p.length = y at *
    have hw1 : w64 (x : Int) = x := w64_id (by omega) (by omega)
    have hrl : (p.getD x []).length = p.length := hf.2.2 _ (by rw [getD_get hx]; exact List.getElem_mem _)
    have hcd2 : cellAt p x y = (p.getD x []).getD y 0 := rfl
    simp (config := { maxSteps := 1000000 }) (disch := (first | omega | (simp only [go_sem]; try omega))) only [go_sem, Nat.reduceAdd, Nat.reduceEqDiff, Nat.reduceLeDiff, Nat.reduceMul, Nat.reduceLT, reduceIte, Int.reduceToNat, w64_id, cast_succ]
    by_cases he : (p.getD x []).getD y 0 = -1
    · rw [if_pos (by rw [hcd2]; exact he)] at hcrd
      repeat (first | (with_reducible first | refine SW.seq ?_ | refine SW.block ?_ | refine SW.rowC ?_ | refine SW.skip ?_ | refine SW.exit ?_ | intro _ | refine And.intro (by omega) ?_) | simp (config := { maxSteps := 1000000 }) (disch := (first | omega | (simp only [go_sem]; try omega))) only [go_sem, Nat.reduceAdd, Nat.reduceEqDiff, Nat.reduceLeDiff, Nat.reduceMul, Nat.reduceLT, reduceIte, Int.reduceToNat, w64_id, cast_succ, hw2, hclI])
      refine SW.condT (by simp [go_sem]) ?_
      repeat (first | (with_reducible first | refine SW.seq ?_ | refine SW.block ?_ | refine SW.rowC ?_ | refine SW.skip ?_ | refine SW.exit ?_ | intro _ | refine And.intro (by omega) ?_) | simp (config := { maxSteps := 1000000 }) (disch := (first | omega | (simp only [go_sem]; try omega))) only [go_sem, Nat.reduceAdd, Nat.reduceEqDiff, Nat.reduceLeDiff, Nat.reduceMul, Nat.reduceLT, reduceIte, Int.reduceToNat, w64_id, cast_succ, hd1, hd2, hn0, hw1, hrl, he])
      refine SW.condT rfl ?_
      repeat (first | (with_reducible first | refine SW.seq ?_ | refine SW.block ?_ | refine SW.rowC ?_ | refine SW.skip ?_ | refine SW.exit ?_ | intro _ | refine And.intro (by omega) ?_) | simp (config := { maxSteps := 1000000 }) (disch := (first | omega | (simp only [go_sem]; try omega))) only [go_sem, Nat.reduceAdd, Nat.reduceEqDiff, Nat.reduceLeDiff, Nat.reduceMul, Nat.reduceLT, reduceIte, Int.reduceToNat, w64_id, cast_succ])
      refine SLoop.next (p.length * p.length - (c + 1)) (by omega) ⟨c + 1, by omega, rfl, ?_, rfl, hcrd.symm⟩
      simp [go_sem]
    · rw [if_neg (by rw [hcd2]; exact he)] at hcrd
      repeat (first | (with_reducible first | refine SW.seq ?_ | refine SW.block ?_ | refine SW.rowC ?_ | refine SW.skip ?_ | refine SW.exit ?_ | intro _ | refine And.intro (by omega) ?_) | simp (config := { maxSteps := 1000000 }) (disch := (first | omega | (simp only [go_sem]; try omega))) only [go_sem, Nat.reduceAdd, Nat.reduceEqDiff, Nat.reduceLeDiff, Nat.reduceMul, Nat.reduceLT, reduceIte, Int.reduceToNat, w64_id, cast_succ, hw2, hclI])
      refine SW.condT (by simp [go_sem]) ?_
      repeat (first | (with_reducible first | refine SW.seq ?_ | refine SW.block ?_ | refine SW.rowC ?_ | refine SW.skip ?_ | refine SW.exit ?_ | intro _ | refine And.intro (by omega) ?_) | simp (config := { maxSteps := 1000000 }) (disch := (first | omega | (simp only [go_sem]; try omega))) only [go_sem, Nat.reduceAdd, Nat.reduceEqDiff, Nat.reduceLeDiff, Nat.reduceMul, Nat.reduceLT, reduceIte, Int.reduceToNat, w64_id, cast_succ, hd1, hd2, hn0, hw1, hrl, he])
      refine SW.condF rfl ?_
      repeat (first | (with_reducible first | refine SW.seq ?_ | refine SW.block ?_ | refine SW.rowC ?_ | refine SW.skip ?_ | refine SW.exit ?_ | intro _ | refine And.intro (by omega) ?_) | simp (config := { maxSteps := 1000000 }) (disch := (first | omega | (simp only [go_sem]; try omega))) only [go_sem, Nat.reduceAdd, Nat.reduceEqDiff, Nat.reduceLeDiff, Nat.reduceMul, Nat.reduceLT, reduceIte, Int.reduceToNat, w64_id, cast_succ])
      refine (hclr.lendf (.cons (froz_ilSS p) (.cons (froz_rowI (ver := 0) (ty := 2) (xs := [(c : Int)]) (r := H'.length) (Nat.zero_le _) (by simp)) .nil))).mono ?_
      rintro r H1 ⟨rfl, rfl⟩
      generalize setC p x y (-1) = sq2 at *
      generalize hcd3 : cc2 sq2 b = r1 at *
      obtain ⟨m1, m2⟩ := r1
      simp only at hcq hcrd
      by_cases h2 : m2 = 0
      · by_cases h3 : m1 = 2
        · rw [if_neg (by simp [h2, h3])] at hcrd
          repeat (first | (with_reducible first | refine SW.seq ?_ | refine SW.block ?_ | refine SW.rowC ?_ | refine SW.skip ?_ | refine SW.exit ?_ | refine PFn.use (hcq) ?_ | refine PFn.useq (hcq) ?_ | intro _ | refine And.intro (by omega) ?_) | simp (config := { maxSteps := 1000000 }) (disch := (first | omega | (simp only [go_sem]; try omega))) only [go_sem, Nat.reduceAdd, Nat.reduceEqDiff, Nat.reduceLeDiff, Nat.reduceMul, Nat.reduceLT, reduceIte, Int.reduceToNat, w64_id, cast_succ, h2, h3])
          refine SW.condF rfl ?_
          repeat (first | (with_reducible first | refine SW.seq ?_ | refine SW.block ?_ | refine SW.rowC ?_ | refine SW.skip ?_ | refine SW.exit ?_ | intro _ | refine And.intro (by omega) ?_) | simp (config := { maxSteps := 1000000 }) (disch := (first | omega | (simp only [go_sem]; try omega))) only [go_sem, Nat.reduceAdd, Nat.reduceEqDiff, Nat.reduceLeDiff, Nat.reduceMul, Nat.reduceLT, reduceIte, Int.reduceToNat, w64_id, cast_succ])
          refine SLoop.nextT 0 (p.length * p.length - (c + 1)) hB (by omega) (by omega) (by simp) ?_ ?_ ⟨c + 1, by omega, rfl, ?_, by simp, hcrd.symm⟩
          · (simp only [go_sem, Nat.reduceAdd, Nat.reduceEqDiff, reduceIte, go_sem, and_self, and_true, true_and, implies_true, List.take_succ_cons, List.take_zero, and_true, true_and]; try omega)
          · (simp only [go_sem, Nat.reduceAdd, Nat.reduceEqDiff, reduceIte, go_sem, and_self, and_true, true_and, implies_true, List.take_succ_cons, List.take_zero, and_true, true_and]; try omega)
          · simp [go_sem]
        · rw [if_pos (.inr h3)] at hcrd
          rw [hcrd]
          repeat (first | (with_reducible first | refine SW.seq ?_ | refine SW.block ?_ | refine SW.rowC ?_ | refine SW.skip ?_ | refine SW.exit ?_ | refine PFn.use (hcq) ?_ | refine PFn.useq (hcq) ?_ | intro _ | refine And.intro (by omega) ?_) | simp (config := { maxSteps := 1000000 }) (disch := (first | omega | (simp only [go_sem]; try omega))) only [go_sem, Nat.reduceAdd, Nat.reduceEqDiff, Nat.reduceLeDiff, Nat.reduceMul, Nat.reduceLT, reduceIte, Int.reduceToNat, w64_id, cast_succ, h2, h3])
          refine SW.condT rfl ?_
          repeat (first | (with_reducible first | refine SW.seq ?_ | refine SW.block ?_ | refine SW.rowC ?_ | refine SW.skip ?_ | refine SW.exit ?_ | intro _ | refine And.intro (by omega) ?_) | simp (config := { maxSteps := 1000000 }) (disch := (first | omega | (simp only [go_sem]; try omega))) only [go_sem, Nat.reduceAdd, Nat.reduceEqDiff, Nat.reduceLeDiff, Nat.reduceMul, Nat.reduceLT, reduceIte, Int.reduceToNat, w64_id, cast_succ])
          refine SW.ret ?_; (try simp only [go_sem]); (first | refine FunPost.one ?_ | refine FunPost.two ?_ | refine FunPost.three ?_); (try simp (config := { maxSteps := 1000000 }) (disch := (first | omega | (simp only [go_sem]; try omega))) only [go_sem, Nat.reduceAdd, Nat.reduceEqDiff, Nat.reduceLeDiff, Nat.reduceMul, Nat.reduceLT, reduceIte, Int.reduceToNat, w64_id, cast_succ]); (first | (with_reducible refine GR.drop ?_ ?_; (simp only [go_sem, and_self, and_true, true_and, implies_true, List.take_succ_cons, List.take_zero])) | refine GR.of ?_); refine ⟨?_, rfl⟩; (try with_reducible rfl)
      · rw [if_pos (.inl h2)] at hcrd
        rw [hcrd]
        repeat (first | (with_reducible first | refine SW.seq ?_ | refine SW.block ?_ | refine SW.rowC ?_ | refine SW.skip ?_ | refine SW.exit ?_ | refine PFn.use (hcq) ?_ | refine PFn.useq (hcq) ?_ | intro _ | refine And.intro (by omega) ?_) | simp (config := { maxSteps := 1000000 }) (disch := (first | omega | (simp only [go_sem]; try omega))) only [go_sem, Nat.reduceAdd, Nat.reduceEqDiff, Nat.reduceLeDiff, Nat.reduceMul, Nat.reduceLT, reduceIte, Int.reduceToNat, w64_id, cast_succ, h2])
        refine SW.condT rfl ?_
        repeat (first | (with_reducible first | refine SW.seq ?_ | refine SW.block ?_ | refine SW.rowC ?_ | refine SW.skip ?_ | refine SW.exit ?_ | intro _ | refine And.intro (by omega) ?_) | simp (config := { maxSteps := 1000000 }) (disch := (first | omega | (simp only [go_sem]; try omega))) only [go_sem, Nat.reduceAdd, Nat.reduceEqDiff, Nat.reduceLeDiff, Nat.reduceMul, Nat.reduceLT, reduceIte, Int.reduceToNat, w64_id, cast_succ])
        refine SW.ret ?_; (try simp only [go_sem]); (first | refine FunPost.one ?_ | refine FunPost.two ?_ | refine FunPost.three ?_); (try simp (config := { maxSteps := 1000000 }) (disch := (first | omega | (simp only [go_sem]; try omega))) only [go_sem, Nat.reduceAdd, Nat.reduceEqDiff, Nat.reduceLeDiff, Nat.reduceMul, Nat.reduceLT, reduceIte, Int.reduceToNat, w64_id, cast_succ]); (first | (with_reducible refine GR.drop ?_ ?_; (simp only [go_sem, and_self, and_true, true_and, implies_true, List.take_succ_cons, List.take_zero])) | refine GR.of ?_); refine ⟨?_, rfl⟩; (try with_reducible rfl)
  · subst hceq
    rw [List.drop_of_length_le (by simp)] at hcr
    subst hcr
    have hceI : ((p.length * p.length : Nat) : Int) = (p.length : Int) * p.length := Int.natCast_mul _ _
    have hirr : decide ((p.length : Int) * p.length < (p.length : Int) * p.length) = false := by simp
    simp (config := { maxSteps := 1000000 }) (disch := (first | omega | (simp only [go_sem]; try omega))) only [go_sem, Nat.reduceAdd, Nat.reduceEqDiff, Nat.reduceLeDiff, Nat.reduceMul, Nat.reduceLT, reduceIte, Int.reduceToNat, w64_id, cast_succ]
    rw [hceI]
    repeat (first | (with_reducible first | refine SW.seq ?_ | refine SW.block ?_ | refine SW.rowC ?_ | refine SW.skip ?_ | refine SW.exit ?_ | intro _ | refine And.intro (by omega) ?_) | simp (config := { maxSteps := 1000000 }) (disch := (first | omega | (simp only [go_sem]; try omega))) only [go_sem, Nat.reduceAdd, Nat.reduceEqDiff, Nat.reduceLeDiff, Nat.reduceMul, Nat.reduceLT, reduceIte, Int.reduceToNat, w64_id, cast_succ, hw2, hirr])
    refine SW.condF rfl ?_
    repeat (first | (with_reducible first | refine SW.seq ?_ | refine SW.block ?_ | refine SW.rowC ?_ | refine SW.skip ?_ | refine SW.exit ?_ | intro _ | refine And.intro (by omega) ?_) | simp (config := { maxSteps := 1000000 }) (disch := (first | omega | (simp only [go_sem]; try omega))) only [go_sem, Nat.reduceAdd, Nat.reduceEqDiff, Nat.reduceLeDiff, Nat.reduceMul, Nat.reduceLT, reduceIte, Int.reduceToNat, w64_id, cast_succ])
    refine SW.ret ?_; (try simp only [go_sem]); (first | refine FunPost.one ?_ | refine FunPost.two ?_ | refine FunPost.three ?_); (try simp (config := { maxSteps := 1000000 }) (disch := (first | omega | (simp only [go_sem]; try omega))) only [go_sem, Nat.reduceAdd, Nat.reduceEqDiff, Nat.reduceLeDiff, Nat.reduceMul, Nat.reduceLT, reduceIte, Int.reduceToNat, w64_id, cast_succ]); (first | (with_reducible refine GR.drop ?_ ?_; (simp only [go_sem, and_self, and_true, true_and, implies_true, List.take_succ_cons, List.take_zero])) | refine GR.of ?_); refine ⟨?_, rfl⟩; (try with_reducible rfl)
    rfl
theorem l09Count2_fn (p : List (List Int)) (b : Nat) (hp : partB p = true) (hb : b ≤ 1000000) : PFn Try.prog f_spec_l09Count [ilSS p, I 2, I b] (.tup [I (cc2 p b).1, I (cc2 p b).2]) := by
  have h := l09Count_fn p 2 b hp (by omega) hb
  have e1 : (if (outS p.length 2 p b).spent then (0 : Int) else ((outS p.length 2 p b).count : Int)) = (cc2 p b).1 := by unfold cc2; split <;> rfl
  have e2 : (if (outS p.length 2 p b).spent then (5 : Int) else 0) = (cc2 p b).2 := by unfold cc2; split <;> rfl
  rw [e1, e2] at h
  exact h
theorem specIsCritical_fn (p : List (List Int)) (b : Int) : PFn Try.prog f_spec_IsCritical [ilSS p, I b] (.tup [Bv (icV p b).1, I (icV p b).2]) := by
  have hv := l09Ok_fn p
  intro H; refine ACalls.introB s_spec_IsCritical (by simp) ?_; intro hB hA; unfold c_spec_IsCritical; simp (config := { maxSteps := 1000000 }) (disch := (first | omega | (simp only [go_sem]; try omega))) only [go_sem, Nat.reduceAdd, Nat.reduceEqDiff, Nat.reduceLeDiff, Nat.reduceMul, Nat.reduceLT, reduceIte, Int.reduceToNat, w64_id, cast_succ]
  repeat (first | (with_reducible first | refine SW.seq ?_ | refine SW.block ?_ | refine SW.rowC ?_ | refine SW.skip ?_ | refine SW.exit ?_ | refine PFn.use (hv) ?_ | refine PFn.useq (hv) ?_ | intro _ | refine And.intro (by omega) ?_) | simp (config := { maxSteps := 1000000 }) (disch := (first | omega | (simp only [go_sem]; try omega))) only [go_sem, Nat.reduceAdd, Nat.reduceEqDiff, Nat.reduceLeDiff, Nat.reduceMul, Nat.reduceLT, reduceIte, Int.reduceToNat, w64_id, cast_succ])
  (first | refine SW.condD rfl (fun h => ?_) (fun h => ?_) | refine SW.condN rfl (fun h => ?_) (fun h => ?_) | refine SW.condNB rfl (fun h => ?_) (fun h => ?_) | refine SW.condB rfl (fun h => ?_) (fun h => ?_))
  · rw [icV, h]
    repeat (first | (with_reducible first | refine SW.seq ?_ | refine SW.block ?_ | refine SW.rowC ?_ | refine SW.skip ?_ | refine SW.exit ?_ | intro _ | refine And.intro (by omega) ?_) | simp (config := { maxSteps := 1000000 }) (disch := (first | omega | (simp only [go_sem]; try omega))) only [go_sem, Nat.reduceAdd, Nat.reduceEqDiff, Nat.reduceLeDiff, Nat.reduceMul, Nat.reduceLT, reduceIte, Int.reduceToNat, w64_id, cast_succ])
    refine SW.ret ?_; (try simp only [go_sem]); (first | refine FunPost.one ?_ | refine FunPost.two ?_ | refine FunPost.three ?_); (try simp (config := { maxSteps := 1000000 }) (disch := (first | omega | (simp only [go_sem]; try omega))) only [go_sem, Nat.reduceAdd, Nat.reduceEqDiff, Nat.reduceLeDiff, Nat.reduceMul, Nat.reduceLT, reduceIte, Int.reduceToNat, w64_id, cast_succ]); (first | (with_reducible refine GR.drop ?_ ?_; (simp only [go_sem, and_self, and_true, true_and, implies_true, List.take_succ_cons, List.take_zero])) | refine GR.of ?_); refine ⟨?_, rfl⟩; (try with_reducible rfl)
  have hf := partB_facts h
  rw [icV, h]
  repeat (first | (with_reducible first | refine SW.seq ?_ | refine SW.block ?_ | refine SW.rowC ?_ | refine SW.skip ?_ | refine SW.exit ?_ | refine PFn.use (l09Budget_fn _) ?_ | refine PFn.useq (l09Budget_fn _) ?_ | intro _ | refine And.intro (by omega) ?_) | simp (config := { maxSteps := 1000000 }) (disch := (first | omega | (simp only [go_sem]; try omega))) only [go_sem, Nat.reduceAdd, Nat.reduceEqDiff, Nat.reduceLeDiff, Nat.reduceMul, Nat.reduceLT, reduceIte, Int.reduceToNat, w64_id, cast_succ])
  (first | refine SW.condD rfl (fun h1 => ?_) (fun h1 => ?_) | refine SW.condN rfl (fun h1 => ?_) (fun h1 => ?_) | refine SW.condNB rfl (fun h1 => ?_) (fun h1 => ?_) | refine SW.condB rfl (fun h1 => ?_) (fun h1 => ?_))
  · rw [h1]
    repeat (first | (with_reducible first | refine SW.seq ?_ | refine SW.block ?_ | refine SW.rowC ?_ | refine SW.skip ?_ | refine SW.exit ?_ | intro _ | refine And.intro (by omega) ?_) | simp (config := { maxSteps := 1000000 }) (disch := (first | omega | (simp only [go_sem]; try omega))) only [go_sem, Nat.reduceAdd, Nat.reduceEqDiff, Nat.reduceLeDiff, Nat.reduceMul, Nat.reduceLT, reduceIte, Int.reduceToNat, w64_id, cast_succ])
    refine SW.ret ?_; (try simp only [go_sem]); (first | refine FunPost.one ?_ | refine FunPost.two ?_ | refine FunPost.three ?_); (try simp (config := { maxSteps := 1000000 }) (disch := (first | omega | (simp only [go_sem]; try omega))) only [go_sem, Nat.reduceAdd, Nat.reduceEqDiff, Nat.reduceLeDiff, Nat.reduceMul, Nat.reduceLT, reduceIte, Int.reduceToNat, w64_id, cast_succ]); (first | (with_reducible refine GR.drop ?_ ?_; (simp only [go_sem, and_self, and_true, true_and, implies_true, List.take_succ_cons, List.take_zero])) | refine GR.of ?_); refine ⟨?_, rfl⟩; (try with_reducible rfl)
  rw [h1]
  have hb := h1
  simp only [Bool.and_eq_true, decide_eq_true_eq] at hb
  obtain ⟨b, rfl⟩ := Int.eq_ofNat_of_zero_le (show 0 ≤ b by omega)
  have hnn : p.length * p.length ≤ 10 * 10 := Nat.mul_le_mul hf.2.1 hf.2.1
  have hn0 : (p.length : Int) ≠ 0 := by omega
  have hw2 : w64 ((p.length : Int) * p.length) = ((p.length * p.length : Nat) : Int) := by rw [← Int.natCast_mul]; exact w64_id (by omega) (by omega)
  have hcp := l09Count2_fn p b h (by omega)
  have hcc := fun q hq => l09Count2_fn q b hq (by omega)
  have hle := cc2_le p b
  generalize hcd : cc2 p b = r0 at *
  obtain ⟨k1, k2⟩ := r0
  simp only at hcp
  by_cases h2 : k2 = 0
  rotate_left
  · repeat (first | (with_reducible first | refine SW.seq ?_ | refine SW.block ?_ | refine SW.rowC ?_ | refine SW.skip ?_ | refine SW.exit ?_ | refine PFn.use (hcp) ?_ | refine PFn.useq (hcp) ?_ | intro _ | refine And.intro (by omega) ?_) | simp (config := { maxSteps := 1000000 }) (disch := (first | omega | (simp only [go_sem]; try omega))) only [go_sem, Nat.reduceAdd, Nat.reduceEqDiff, Nat.reduceLeDiff, Nat.reduceMul, Nat.reduceLT, reduceIte, Int.reduceToNat, w64_id, cast_succ, h2])
    refine SW.condT rfl ?_
    repeat (first | (with_reducible first | refine SW.seq ?_ | refine SW.block ?_ | refine SW.rowC ?_ | refine SW.skip ?_ | refine SW.exit ?_ | intro _ | refine And.intro (by omega) ?_) | simp (config := { maxSteps := 1000000 }) (disch := (first | omega | (simp only [go_sem]; try omega))) only [go_sem, Nat.reduceAdd, Nat.reduceEqDiff, Nat.reduceLeDiff, Nat.reduceMul, Nat.reduceLT, reduceIte, Int.reduceToNat, w64_id, cast_succ])
    refine SW.ret ?_; (try simp only [go_sem]); (first | refine FunPost.one ?_ | refine FunPost.two ?_ | refine FunPost.three ?_); (try simp (config := { maxSteps := 1000000 }) (disch := (first | omega | (simp only [go_sem]; try omega))) only [go_sem, Nat.reduceAdd, Nat.reduceEqDiff, Nat.reduceLeDiff, Nat.reduceMul, Nat.reduceLT, reduceIte, Int.reduceToNat, w64_id, cast_succ]); (first | (with_reducible refine GR.drop ?_ ?_; (simp only [go_sem, and_self, and_true, true_and, implies_true, List.take_succ_cons, List.take_zero])) | refine GR.of ?_); refine ⟨?_, rfl⟩; (try with_reducible rfl)
    rw [hcd, if_pos (.inl h2)]
  by_cases h3 : k1 = 1
  rotate_left
  · subst h2
    repeat (first | (with_reducible first | refine SW.seq ?_ | refine SW.block ?_ | refine SW.rowC ?_ | refine SW.skip ?_ | refine SW.exit ?_ | refine PFn.use (hcp) ?_ | refine PFn.useq (hcp) ?_ | intro _ | refine And.intro (by omega) ?_) | simp (config := { maxSteps := 1000000 }) (disch := (first | omega | (simp only [go_sem]; try omega))) only [go_sem, Nat.reduceAdd, Nat.reduceEqDiff, Nat.reduceLeDiff, Nat.reduceMul, Nat.reduceLT, reduceIte, Int.reduceToNat, w64_id, cast_succ, h3])
    refine SW.condF rfl ?_
    repeat (first | (with_reducible first | refine SW.seq ?_ | refine SW.block ?_ | refine SW.rowC ?_ | refine SW.skip ?_ | refine SW.exit ?_ | intro _ | refine And.intro (by omega) ?_) | simp (config := { maxSteps := 1000000 }) (disch := (first | omega | (simp only [go_sem]; try omega))) only [go_sem, Nat.reduceAdd, Nat.reduceEqDiff, Nat.reduceLeDiff, Nat.reduceMul, Nat.reduceLT, reduceIte, Int.reduceToNat, w64_id, cast_succ, h3])
    refine SW.condT rfl ?_
    repeat (first | (with_reducible first | refine SW.seq ?_ | refine SW.block ?_ | refine SW.rowC ?_ | refine SW.skip ?_ | refine SW.exit ?_ | intro _ | refine And.intro (by omega) ?_) | simp (config := { maxSteps := 1000000 }) (disch := (first | omega | (simp only [go_sem]; try omega))) only [go_sem, Nat.reduceAdd, Nat.reduceEqDiff, Nat.reduceLeDiff, Nat.reduceMul, Nat.reduceLT, reduceIte, Int.reduceToNat, w64_id, cast_succ])
    refine SW.ret ?_; (try simp only [go_sem]); (first | refine FunPost.one ?_ | refine FunPost.two ?_ | refine FunPost.three ?_); (try simp (config := { maxSteps := 1000000 }) (disch := (first | omega | (simp only [go_sem]; try omega))) only [go_sem, Nat.reduceAdd, Nat.reduceEqDiff, Nat.reduceLeDiff, Nat.reduceMul, Nat.reduceLT, reduceIte, Int.reduceToNat, w64_id, cast_succ]); (first | (with_reducible refine GR.drop ?_ ?_; (simp only [go_sem, and_self, and_true, true_and, implies_true, List.take_succ_cons, List.take_zero])) | refine GR.of ?_); refine ⟨?_, rfl⟩; (try with_reducible rfl)
    rw [hcd, if_pos (.inr h3)]
  subst h2; subst h3
  repeat (first | (with_reducible first | refine SW.seq ?_ | refine SW.block ?_ | refine SW.rowC ?_ | refine SW.skip ?_ | refine SW.exit ?_ | refine PFn.use (hcp) ?_ | refine PFn.useq (hcp) ?_ | intro _ | refine And.intro (by omega) ?_) | simp (config := { maxSteps := 1000000 }) (disch := (first | omega | (simp only [go_sem]; try omega))) only [go_sem, Nat.reduceAdd, Nat.reduceEqDiff, Nat.reduceLeDiff, Nat.reduceMul, Nat.reduceLT, reduceIte, Int.reduceToNat, w64_id, cast_succ])
  refine SW.condF rfl ?_
  repeat (first | (with_reducible first | refine SW.seq ?_ | refine SW.block ?_ | refine SW.rowC ?_ | refine SW.skip ?_ | refine SW.exit ?_ | intro _ | refine And.intro (by omega) ?_) | simp (config := { maxSteps := 1000000 }) (disch := (first | omega | (simp only [go_sem]; try omega))) only [go_sem, Nat.reduceAdd, Nat.reduceEqDiff, Nat.reduceLeDiff, Nat.reduceMul, Nat.reduceLT, reduceIte, Int.reduceToNat, w64_id, cast_succ])
  refine SW.condF rfl ?_
  have hcN : ¬ (¬(cc2 p b).2 = 0 ∨ ¬(cc2 p b).1 = 1) := by rw [hcd]; simp
  rw [if_neg hcN]
  clear hcN
  generalize hR : critL p b (List.range (p.length * p.length)) = R
  repeat (first | (with_reducible first | refine SW.seq ?_ | refine SW.block ?_ | refine SW.rowC ?_ | refine SW.skip ?_ | refine SW.exit ?_ | intro _ | refine And.intro (by omega) ?_) | simp (config := { maxSteps := 1000000 }) (disch := (first | omega | (simp only [go_sem]; try omega))) only [go_sem, Nat.reduceAdd, Nat.reduceEqDiff, Nat.reduceLeDiff, Nat.reduceMul, Nat.reduceLT, reduceIte, Int.reduceToNat, w64_id, cast_succ])
  refine SW.loopE (fun E0 H0 q E' H' => ∃ c : Nat, c ≤ p.length * p.length ∧ q = p.length * p.length - c ∧ E' = aput E0 9 (I c) ∧ H' = H0 ∧ critL p b ((List.range (p.length * p.length)).drop c) = R) (p.length * p.length) ⟨0, by omega, by omega, rfl, rfl, hR⟩ ?_
  rintro q E' H' ⟨c, hc, rfl, rfl, rfl, hcr⟩
  rcases Nat.lt_or_eq_of_le hc with hclt | hceq
  · have hx : c / p.length < p.length := Nat.div_lt_of_lt_mul hclt
    have hy : c % p.length < p.length := Nat.mod_lt _ (by omega)
    have hd1 : (c : Int).tdiv p.length = ((c / p.length : Nat) : Int) := (Int.ofNat_tdiv c p.length).symm
    have hd2 : (c : Int).tmod p.length = ((c % p.length : Nat) : Int) := (Int.ofNat_tmod c p.length).symm
    have hcrd := critL_drop (b := b) hclt
    rw [hcr] at hcrd
    have hpc := partB_clear h hx hy
    have hsq2 := setC_ok (v := -1) (x := c / p.length) (y := c % p.length) (⟨rfl, hf.2.2⟩ : p.length = p.length ∧ ∀ r ∈ p, r.length = p.length)
    have hcq := hcc _ hpc
    have hle2 := cc2_le (setC p (c / p.length) (c % p.length) (-1)) b
    have hclI : (c : Int) < (p.length : Int) * p.length := by rw [← Int.natCast_mul]; omega
    generalize c / p.length = x at *
    generalize c % p.length = y at *
    have hw1 : w64 (x : Int) = x := w64_id (by omega) (by omega)
    have hrl : (p.getD x []).length = p.length := hf.2.2 _ (by rw [getD_get hx]; exact List.getElem_mem _)
    have hge := partB_ge h x y hx hy
    have hcd2 : cellAt p x y = (p.getD x []).getD y 0 := rfl
    simp (config := { maxSteps := 1000000 }) (disch := (first | omega | (simp only [go_sem]; try omega))) only [go_sem, Nat.reduceAdd, Nat.reduceEqDiff, Nat.reduceLeDiff, Nat.reduceMul, Nat.reduceLT, reduceIte, Int.reduceToNat, w64_id, cast_succ]
    by_cases he : 0 ≤ (p.getD x []).getD y 0
    rotate_left
    · have he' : (p.getD x []).getD y 0 < 0 := by omega
      rw [if_pos (by omega)] at hcrd
      repeat (first | (with_reducible first | refine SW.seq ?_ | refine SW.block ?_ | refine SW.rowC ?_ | refine SW.skip ?_ | refine SW.exit ?_ | intro _ | refine And.intro (by omega) ?_) | simp (config := { maxSteps := 1000000 }) (disch := (first | omega | (simp only [go_sem]; try omega))) only [go_sem, Nat.reduceAdd, Nat.reduceEqDiff, Nat.reduceLeDiff, Nat.reduceMul, Nat.reduceLT, reduceIte, Int.reduceToNat, w64_id, cast_succ, hw2, hclI])
      refine SW.condT (by simp [go_sem]) ?_
      repeat (first | (with_reducible first | refine SW.seq ?_ | refine SW.block ?_ | refine SW.rowC ?_ | refine SW.skip ?_ | refine SW.exit ?_ | intro _ | refine And.intro (by omega) ?_) | simp (config := { maxSteps := 1000000 }) (disch := (first | omega | (simp only [go_sem]; try omega))) only [go_sem, Nat.reduceAdd, Nat.reduceEqDiff, Nat.reduceLeDiff, Nat.reduceMul, Nat.reduceLT, reduceIte, Int.reduceToNat, w64_id, cast_succ, hd1, hd2, hn0, hw1, hrl, he'])
      refine SW.condT rfl ?_
      repeat (first | (with_reducible first | refine SW.seq ?_ | refine SW.block ?_ | refine SW.rowC ?_ | refine SW.skip ?_ | refine SW.exit ?_ | intro _ | refine And.intro (by omega) ?_) | simp (config := { maxSteps := 1000000 }) (disch := (first | omega | (simp only [go_sem]; try omega))) only [go_sem, Nat.reduceAdd, Nat.reduceEqDiff, Nat.reduceLeDiff, Nat.reduceMul, Nat.reduceLT, reduceIte, Int.reduceToNat, w64_id, cast_succ])
      refine SLoop.next (p.length * p.length - (c + 1)) (by omega) ⟨c + 1, by omega, rfl, ?_, rfl, hcrd.symm⟩
      simp [go_sem]
    · have he' : ¬ (p.getD x []).getD y 0 < 0 := by omega
      rw [if_neg (by omega)] at hcrd
      have hsq : p.length = p.length ∧ ∀ r ∈ p, r.length = p.length := ⟨rfl, hf.2.2⟩
      have htk : ((p.getD x []).map I).take p.length = (p.getD x []).map I := List.take_of_length_le (by simp only [List.length_map]; omega)
      have t0 := q0 (H := H') (n := p.length) (sq := p) (ext := [])
      have t1 := qtake (H := H') hsq.1
      have t2 := qcell (H := H') hsq hx
      have t3 := qrow (H := H') (ext := []) hsq.1 hx
      have t4 := qset (H := H') (ext := []) (y := y) hsq.1 hx (-1)
      rw [List.append_nil] at t0 t3
      simp only [List.append_nil] at t4
      have hfz := froz_sq (Hb := H') (v := p.length) (w := 1) (xss := setC p x y (-1)) (ext := [])
      rw [hsq2.1, List.append_nil] at hfz
      repeat (first | (with_reducible first | refine SW.seq ?_ | refine SW.block ?_ | refine SW.rowC ?_ | refine SW.skip ?_ | refine SW.exit ?_ | intro _ | refine And.intro (by omega) ?_) | simp (config := { maxSteps := 1000000 }) (disch := (first | omega | (simp only [go_sem]; try omega))) only [go_sem, Nat.reduceAdd, Nat.reduceEqDiff, Nat.reduceLeDiff, Nat.reduceMul, Nat.reduceLT, reduceIte, Int.reduceToNat, w64_id, cast_succ, hw2, hclI])
      refine SW.condT (by simp [go_sem]) ?_
      repeat (first | (with_reducible first | refine SW.seq ?_ | refine SW.block ?_ | refine SW.rowC ?_ | refine SW.skip ?_ | refine SW.exit ?_ | intro _ | refine And.intro (by omega) ?_) | simp (config := { maxSteps := 1000000 }) (disch := (first | omega | (simp only [go_sem]; try omega))) only [go_sem, Nat.reduceAdd, Nat.reduceEqDiff, Nat.reduceLeDiff, Nat.reduceMul, Nat.reduceLT, reduceIte, Int.reduceToNat, w64_id, cast_succ, hd1, hd2, hn0, hw1, hrl, he'])
      refine SW.condF rfl ?_
      repeat (first | (with_reducible first | refine SW.seq ?_ | refine SW.block ?_ | refine SW.rowC ?_ | refine SW.skip ?_ | refine SW.exit ?_ | intro _ | refine And.intro (by omega) ?_) | simp (config := { maxSteps := 1000000 }) (disch := (first | omega | (simp only [go_sem]; try omega))) only [go_sem, Nat.reduceAdd, Nat.reduceEqDiff, Nat.reduceLeDiff, Nat.reduceMul, Nat.reduceLT, reduceIte, Int.reduceToNat, w64_id, cast_succ])
      refine (l06Own_sq _ _ p (rd_ilSS _ _) (by omega) (fun r hr => by have := hf.2.2 r hr; omega)).mono ?_
      rintro r H1 ⟨rfl, rfl⟩
      repeat (first | (with_reducible first | refine SW.seq ?_ | refine SW.block ?_ | refine SW.rowC ?_ | refine SW.skip ?_ | refine SW.exit ?_ | intro _ | refine And.intro (by omega) ?_) | simp (config := { maxSteps := 1000000 }) (disch := (first | omega | (simp only [go_sem]; try omega))) only [go_sem, Nat.reduceAdd, Nat.reduceEqDiff, Nat.reduceLeDiff, Nat.reduceMul, Nat.reduceLT, reduceIte, Int.reduceToNat, w64_id, cast_succ, hd1, hd2, hn0, hw1, t0, t1, t2, t3, t4, htk, hrl])
      refine ((hcq.lendv (.tup2 (.I _) (.I _)) (sh_II _ _ _) (.cons hfz (.cons (.I _) (.cons (.I _) .nil))))).mono ?_
      rintro r H1 ⟨rfl, rfl⟩
      have hQB := sqB_length p.length 1 H'.length (setC p x y (-1))
      generalize setC p x y (-1) = sq2 at *
      generalize hcd3 : cc2 sq2 b = r1 at *
      obtain ⟨m1, m2⟩ := r1
      simp only at hcq hcrd hle2
      by_cases h2 : m2 = 0
      · by_cases h3 : m1 = 2
        · rw [if_neg (by simp [h2, h3])] at hcrd
          repeat (first | (with_reducible first | refine SW.seq ?_ | refine SW.block ?_ | refine SW.rowC ?_ | refine SW.skip ?_ | refine SW.exit ?_ | intro _ | refine And.intro (by omega) ?_) | simp (config := { maxSteps := 1000000 }) (disch := (first | omega | (simp only [go_sem]; try omega))) only [go_sem, Nat.reduceAdd, Nat.reduceEqDiff, Nat.reduceLeDiff, Nat.reduceMul, Nat.reduceLT, reduceIte, Int.reduceToNat, w64_id, cast_succ, h2, h3])
          refine SW.condF rfl ?_
          repeat (first | (with_reducible first | refine SW.seq ?_ | refine SW.block ?_ | refine SW.rowC ?_ | refine SW.skip ?_ | refine SW.exit ?_ | intro _ | refine And.intro (by omega) ?_) | simp (config := { maxSteps := 1000000 }) (disch := (first | omega | (simp only [go_sem]; try omega))) only [go_sem, Nat.reduceAdd, Nat.reduceEqDiff, Nat.reduceLeDiff, Nat.reduceMul, Nat.reduceLT, reduceIte, Int.reduceToNat, w64_id, cast_succ, h3])
          refine SW.condF rfl ?_
          repeat (first | (with_reducible first | refine SW.seq ?_ | refine SW.block ?_ | refine SW.rowC ?_ | refine SW.skip ?_ | refine SW.exit ?_ | intro _ | refine And.intro (by omega) ?_) | simp (config := { maxSteps := 1000000 }) (disch := (first | omega | (simp only [go_sem]; try omega))) only [go_sem, Nat.reduceAdd, Nat.reduceEqDiff, Nat.reduceLeDiff, Nat.reduceMul, Nat.reduceLT, reduceIte, Int.reduceToNat, w64_id, cast_succ])
          refine SLoop.nextT 0 (p.length * p.length - (c + 1)) hB (by omega) (by omega) (by simp) ?_ ?_ ⟨c + 1, by omega, rfl, ?_, by simp, hcrd.symm⟩
          · (simp only [go_sem, Nat.reduceAdd, Nat.reduceEqDiff, reduceIte, go_sem, and_self, and_true, true_and, implies_true, List.take_succ_cons, List.take_zero, and_true, true_and]; try omega)
          · (simp only [go_sem, Nat.reduceAdd, Nat.reduceEqDiff, reduceIte, go_sem, and_self, and_true, true_and, implies_true, List.take_succ_cons, List.take_zero, and_true, true_and]; try omega)
          · simp [go_sem]
        · rw [if_pos (.inr h3)] at hcrd
          rw [hcrd]
          have h4 : m1 < 2 := by omega
          repeat (first | (with_reducible first | refine SW.seq ?_ | refine SW.block ?_ | refine SW.rowC ?_ | refine SW.skip ?_ | refine SW.exit ?_ | intro _ | refine And.intro (by omega) ?_) | simp (config := { maxSteps := 1000000 }) (disch := (first | omega | (simp only [go_sem]; try omega))) only [go_sem, Nat.reduceAdd, Nat.reduceEqDiff, Nat.reduceLeDiff, Nat.reduceMul, Nat.reduceLT, reduceIte, Int.reduceToNat, w64_id, cast_succ, h2, h4])
          refine SW.condF rfl ?_
          repeat (first | (with_reducible first | refine SW.seq ?_ | refine SW.block ?_ | refine SW.rowC ?_ | refine SW.skip ?_ | refine SW.exit ?_ | intro _ | refine And.intro (by omega) ?_) | simp (config := { maxSteps := 1000000 }) (disch := (first | omega | (simp only [go_sem]; try omega))) only [go_sem, Nat.reduceAdd, Nat.reduceEqDiff, Nat.reduceLeDiff, Nat.reduceMul, Nat.reduceLT, reduceIte, Int.reduceToNat, w64_id, cast_succ, h4])
          refine SW.condT rfl ?_
          repeat (first | (with_reducible first | refine SW.seq ?_ | refine SW.block ?_ | refine SW.rowC ?_ | refine SW.skip ?_ | refine SW.exit ?_ | intro _ | refine And.intro (by omega) ?_) | simp (config := { maxSteps := 1000000 }) (disch := (first | omega | (simp only [go_sem]; try omega))) only [go_sem, Nat.reduceAdd, Nat.reduceEqDiff, Nat.reduceLeDiff, Nat.reduceMul, Nat.reduceLT, reduceIte, Int.reduceToNat, w64_id, cast_succ])
          refine SW.ret ?_; (try simp only [go_sem]); (first | refine FunPost.one ?_ | refine FunPost.two ?_ | refine FunPost.three ?_); (try simp (config := { maxSteps := 1000000 }) (disch := (first | omega | (simp only [go_sem]; try omega))) only [go_sem, Nat.reduceAdd, Nat.reduceEqDiff, Nat.reduceLeDiff, Nat.reduceMul, Nat.reduceLT, reduceIte, Int.reduceToNat, w64_id, cast_succ]); (first | (with_reducible refine GR.drop ?_ ?_; (simp only [go_sem, and_self, and_true, true_and, implies_true, List.take_succ_cons, List.take_zero])) | refine GR.of ?_); refine ⟨?_, rfl⟩; (try with_reducible rfl)
      · rw [if_pos (.inl h2)] at hcrd
        rw [hcrd]
        repeat (first | (with_reducible first | refine SW.seq ?_ | refine SW.block ?_ | refine SW.rowC ?_ | refine SW.skip ?_ | refine SW.exit ?_ | intro _ | refine And.intro (by omega) ?_) | simp (config := { maxSteps := 1000000 }) (disch := (first | omega | (simp only [go_sem]; try omega))) only [go_sem, Nat.reduceAdd, Nat.reduceEqDiff, Nat.reduceLeDiff, Nat.reduceMul, Nat.reduceLT, reduceIte, Int.reduceToNat, w64_id, cast_succ, h2])
        refine SW.condT rfl ?_
        repeat (first | (with_reducible first | refine SW.seq ?_ | refine SW.block ?_ | refine SW.rowC ?_ | refine SW.skip ?_ | refine SW.exit ?_ | intro _ | refine And.intro (by omega) ?_) | simp (config := { maxSteps := 1000000 }) (disch := (first | omega | (simp only [go_sem]; try omega))) only [go_sem, Nat.reduceAdd, Nat.reduceEqDiff, Nat.reduceLeDiff, Nat.reduceMul, Nat.reduceLT, reduceIte, Int.reduceToNat, w64_id, cast_succ])
        refine SW.ret ?_; (try simp only [go_sem]); (first | refine FunPost.one ?_ | refine FunPost.two ?_ | refine FunPost.three ?_); (try simp (config := { maxSteps := 1000000 }) (disch := (first | omega | (simp only [go_sem]; try omega))) only [go_sem, Nat.reduceAdd, Nat.reduceEqDiff, Nat.reduceLeDiff, Nat.reduceMul, Nat.reduceLT, reduceIte, Int.reduceToNat, w64_id, cast_succ]); (first | (with_reducible refine GR.drop ?_ ?_; (simp only [go_sem, and_self, and_true, true_and, implies_true, List.take_succ_cons, List.take_zero])) | refine GR.of ?_); refine ⟨?_, rfl⟩; (try with_reducible rfl)
  · subst hceq
    rw [List.drop_of_length_le (by simp)] at hcr
    subst hcr
    have hceI : ((p.length * p.length : Nat) : Int) = (p.length : Int) * p.length := Int.natCast_mul _ _
    have hirr : decide ((p.length : Int) * p.length < (p.length : Int) * p.length) = false := by simp
    simp (config := { maxSteps := 1000000 }) (disch := (first | omega | (simp only [go_sem]; try omega))) only [go_sem, Nat.reduceAdd, Nat.reduceEqDiff, Nat.reduceLeDiff, Nat.reduceMul, Nat.reduceLT, reduceIte, Int.reduceToNat, w64_id, cast_succ]
    rw [hceI]
    repeat (first | (with_reducible first | refine SW.seq ?_ | refine SW.block ?_ | refine SW.rowC ?_ | refine SW.skip ?_ | refine SW.exit ?_ | intro _ | refine And.intro (by omega) ?_) | simp (config := { maxSteps := 1000000 }) (disch := (first | omega | (simp only [go_sem]; try omega))) only [go_sem, Nat.reduceAdd, Nat.reduceEqDiff, Nat.reduceLeDiff, Nat.reduceMul, Nat.reduceLT, reduceIte, Int.reduceToNat, w64_id, cast_succ, hw2, hirr])
    refine SW.condF rfl ?_
    repeat (first | (with_reducible first | refine SW.seq ?_ | refine SW.block ?_ | refine SW.rowC ?_ | refine SW.skip ?_ | refine SW.exit ?_ | intro _ | refine And.intro (by omega) ?_) | simp (config := { maxSteps := 1000000 }) (disch := (first | omega | (simp only [go_sem]; try omega))) only [go_sem, Nat.reduceAdd, Nat.reduceEqDiff, Nat.reduceLeDiff, Nat.reduceMul, Nat.reduceLT, reduceIte, Int.reduceToNat, w64_id, cast_succ])
    refine SW.ret ?_; (try simp only [go_sem]); (first | refine FunPost.one ?_ | refine FunPost.two ?_ | refine FunPost.three ?_); (try simp (config := { maxSteps := 1000000 }) (disch := (first | omega | (simp only [go_sem]; try omega))) only [go_sem, Nat.reduceAdd, Nat.reduceEqDiff, Nat.reduceLeDiff, Nat.reduceMul, Nat.reduceLT, reduceIte, Int.reduceToNat, w64_id, cast_succ]); (first | (with_reducible refine GR.drop ?_ ?_; (simp only [go_sem, and_self, and_true, true_and, implies_true, List.take_succ_cons, List.take_zero])) | refine GR.of ?_); refine ⟨?_, rfl⟩; (try with_reducible rfl)
    rfl
end Go.Proofs.Ytchehdplcbffmaa
