/- Pairs of points, counted by the program and by the reference. -/
import Derived.Test.YtkpohapopokahaaProg
import Derived.KernelRfl
import Derived.Test.YtkpohapopokahaaK20
import Derived.Test.YtkpohapopokahaaK18
set_option linter.unusedSimpArgs false
set_option linter.unusedVariables false
set_option maxHeartbeats 4000000
namespace Go.Proofs.Ytkpohapopokahaa
open Go.Av

/-! The abstract code of functions, printed by program and tied to the program by the kernel. -/
/-- loop.example/g00920/laws.FnExactIsPacking -/
abbrev f_laws_FnExactIsPacking : Nat := 6
def c_laws_FnExactIsPacking : SC :=
 .seq (.reg [
     ⟨(some 3), .box 45 (.tmp 0), none⟩,
     ⟨(some 6), .mv (.const (.bool false)), none⟩] [1, 2, 3])
 (.seq (.reg [
     ⟨(some 7), .mv (.const (.int .i64 1048576)), none⟩] [1, 2, 3, 7])
 (.seq (.reg [
     ⟨(some 11), .load 2 true (.tmp 3), none⟩,
     ⟨(some 12), .mv (.tmp 7), none⟩,
     ⟨(some 13), .call 31 [(.tmp 11), (.tmp 12)], none⟩,
     ⟨(some 7), .mv (.tmp 13), none⟩] [1, 2, 3, 7])
 (.seq (.seq (.reg [
     ⟨(some 14), .mv (.tmp 7), none⟩,
     ⟨(some 15), .bin .lss (.tmp 14) (.const (.int .i64 0)), none⟩] [1, 2, 3, 15])
 (.cond (.tmp 15)
  (.seq (.reg [
      ⟨(some 6), .mv (.const (.bool true)), none⟩] [6])
  (.ret))
  (.skip)))
 (.seq (.reg [
     ⟨(some 16), .load 2 true (.tmp 3), none⟩,
     ⟨(some 17), .call 33 [(.tmp 16)], none⟩,
     ⟨(some 18), .mv (.tmp 1), none⟩,
     ⟨(some 19), .mv (.tmp 2), none⟩,
     ⟨(some 20), .call 32 [(.tmp 17), (.tmp 18), (.tmp 19)], none⟩,
     ⟨(some 8), .mv (.tmp 20), none⟩] [1, 2, 3, 8])
 (.seq (.reg [
     ⟨(some 21), .load 2 true (.tmp 3), none⟩,
     ⟨(some 22), .call 33 [(.tmp 21)], none⟩,
     ⟨(some 9), .alloc 48 [(.int .i64 0), (.slice none 0 0)], none⟩,
     ⟨none, .store 2 (.tmp 9) (.tmp 22), none⟩] [1, 2, 3, 8, 9])
 (.seq (.reg [
     ⟨(some 23), .load 2 true (.tmp 9), none⟩,
     ⟨(some 24), .mv (.tmp 1), none⟩,
     ⟨(some 25), .mv (.tmp 2), none⟩,
     ⟨(some 26), .call 34 [(.tmp 23), (.tmp 24), (.tmp 25)], none⟩,
     ⟨(some 10), .mv (.tmp 26), none⟩] [3, 8, 9, 10])
 (.seq (.seq (.reg [
     ⟨(some 27), .mv (.tmp 10), none⟩,
     ⟨(some 28), .mv (.tmp 8), none⟩,
     ⟨(some 29), .binb true (.tmp 27) (.tmp 28), none⟩] [3, 9, 29])
 (.cond (.tmp 29)
  (.seq (.reg [
      ⟨(some 6), .mv (.const (.bool false)), none⟩] [6])
  (.ret))
  (.skip)))
 (.seq (.seq (.reg [
     ⟨(some 30), .load 2 true (.tmp 9), none⟩,
     ⟨(some 31), .load 2 true (.tmp 3), none⟩,
     ⟨(some 32), .qcall 33 [(.tmp 31)], none⟩,
     ⟨(some 33), .qcall 35 [(.tmp 30), (.tmp 32)], none⟩,
     ⟨(some 34), .un .not (.tmp 33), none⟩] [34])
 (.cond (.tmp 34)
  (.seq (.reg [
      ⟨(some 6), .mv (.const (.bool false)), none⟩] [6])
  (.ret))
  (.skip)))
 (.seq (.reg [
     ⟨(some 6), .mv (.const (.bool true)), none⟩] [6])
 (.ret))))))))))
theorem s_laws_FnExactIsPacking : stripF Try.prog 6 [[1, 2, 3], [1, 2, 3, 7], [1, 2, 3, 7], [1, 2, 3, 15], [6], [1, 2, 3, 8], [1, 2, 3, 8, 9], [3, 8, 9, 10], [3, 9, 29], [6], [34], [6], [6]] = some (c_laws_FnExactIsPacking, [.tmp 6], 35) := by kernel_rfl

/-- loop.example/g00920/laws.szDesign -/
abbrev f_laws_szDesign : Nat := 31
def c_laws_szDesign : SC :=
 .seq (.reg [
     ⟨(some 2), .box 45 (.tmp 0), none⟩,
     ⟨(some 4), .mv (.const (.int .i64 0)), none⟩] [1, 2])
 (.seq (.reg [
     ⟨(some 5), .faddr 1 (.tmp 2), none⟩,
     ⟨(some 6), .load 1 false (.tmp 5), none⟩,
     ⟨(some 7), .mv (.tmp 1), none⟩,
     ⟨(some 8), .call 26 [(.tmp 6), (.tmp 7)], none⟩,
     ⟨(some 1), .mv (.tmp 8), none⟩] [1])
 (.seq (.seq (.reg [
     ⟨(some 9), .mv (.tmp 1), none⟩,
     ⟨(some 10), .bin .lss (.tmp 9) (.const (.int .i64 0)), none⟩] [1, 10])
 (.cond (.tmp 10)
  (.seq (.reg [
      ⟨(some 4), .mv (.const (.int .i64 (-1))), none⟩] [4])
  (.ret))
  (.skip)))
 (.seq (.reg [
     ⟨(some 11), .mv (.tmp 1), none⟩,
     ⟨(some 4), .mv (.tmp 11), none⟩] [4])
 (.ret))))
theorem s_laws_szDesign : stripF Try.prog 31 [[1, 2], [1], [1, 10], [4], [4]] = some (c_laws_szDesign, [.tmp 4], 12) := by kernel_rfl

/-- loop.example/g00920/spec.IsPacking -/
abbrev f_spec_IsPacking : Nat := 32
def c_spec_IsPacking : SC :=
 .seq (.reg [
     ⟨(some 3), .box 48 (.tmp 0), none⟩,
     ⟨(some 6), .mv (.const (.bool false)), none⟩] [1, 2, 3])
 (.seq (.reg [
     ⟨(some 7), .mv (.tmp 1), none⟩,
     ⟨(some 8), .mv (.tmp 2), none⟩,
     ⟨(some 9), .call 75 [(.tmp 3), (.tmp 7), (.tmp 8)], none⟩,
     ⟨(some 6), .mv (.tmp 9), none⟩] [6])
 (.ret))
theorem s_spec_IsPacking : stripF Try.prog 32 [[1, 2, 3], [6]] = some (c_spec_IsPacking, [.tmp 6], 10) := by kernel_rfl

/-- loop.example/g00920/laws.toDesign -/
abbrev f_laws_toDesign : Nat := 33
def c_laws_toDesign : SC :=
 .seq (.reg [
     ⟨(some 1), .box 45 (.tmp 0), none⟩,
     ⟨(some 2), .alloc 48 [(.int .i64 0), (.slice none 0 0)], none⟩] [1, 2])
 (.seq (.reg [
     ⟨(some 3), .alloc 48 [(.int .i64 0), (.slice none 0 0)], none⟩] [1, 2, 3])
 (.seq (.reg [
     ⟨(some 4), .faddr 0 (.tmp 1), none⟩,
     ⟨(some 5), .load 1 false (.tmp 4), none⟩,
     ⟨(some 6), .faddr 0 (.tmp 3), none⟩,
     ⟨none, .store 1 (.tmp 6) (.tmp 5), none⟩] [1, 2, 3])
 (.seq (.reg [
     ⟨(some 7), .faddr 1 (.tmp 1), none⟩,
     ⟨(some 8), .load 1 false (.tmp 7), none⟩,
     ⟨(some 9), .call 28 [(.tmp 8)], none⟩,
     ⟨(some 10), .faddr 1 (.tmp 3), none⟩,
     ⟨none, .store 1 (.tmp 10) (.tmp 9), none⟩] [2, 3])
 (.seq (.reg [
     ⟨(some 11), .load 2 true (.tmp 3), none⟩,
     ⟨none, .store 2 (.tmp 2) (.tmp 11), none⟩] [2])
 (.ret)))))
theorem s_laws_toDesign : stripF Try.prog 33 [[1, 2], [1, 2, 3], [1, 2, 3], [2, 3], [2]] = some (c_laws_toDesign, [.cell 2 2], 12) := by kernel_rfl

/-- loop.example/g00920/impl.IsPacking -/
abbrev f_impl_IsPacking : Nat := 34
def c_impl_IsPacking : SC :=
 .seq (.reg [
     ⟨(some 3), .box 48 (.tmp 0), none⟩,
     ⟨(some 6), .mv (.const (.bool false)), none⟩] [1, 2, 3])
 (.seq (.reg [
     ⟨(some 7), .load 2 true (.tmp 3), none⟩,
     ⟨(some 8), .call 76 [(.tmp 7)], none⟩,
     ⟨(some 9), .mv (.tmp 8), none⟩,
     ⟨(some 10), .load 2 true (.tmp 3), (some (9, true))⟩,
     ⟨(some 11), .mv (.tmp 1), (some (9, true))⟩,
     ⟨(some 12), .mv (.tmp 2), (some (9, true))⟩,
     ⟨(some 13), .call 77 [(.tmp 10), (.tmp 11), (.tmp 12)], (some (9, true))⟩,
     ⟨(some 14), .pick (.tmp 9) (.tmp 13) (.const (.bool false)), none⟩,
     ⟨(some 6), .mv (.tmp 14), none⟩] [6])
 (.ret))
theorem s_impl_IsPacking : stripF Try.prog 34 [[1, 2, 3], [6]] = some (c_impl_IsPacking, [.tmp 6], 15) := by kernel_rfl

/-- loop.example/g00920/laws.eqDesign -/
abbrev f_laws_eqDesign : Nat := 35
def c_laws_eqDesign : SC :=
 .seq (.reg [
     ⟨(some 2), .box 48 (.tmp 0), none⟩,
     ⟨(some 3), .box 48 (.tmp 1), none⟩,
     ⟨(some 4), .mv (.const (.bool false)), none⟩] [2, 3])
 (.seq (.seq (.reg [
     ⟨(some 5), .faddr 0 (.tmp 2), none⟩,
     ⟨(some 6), .load 1 false (.tmp 5), none⟩,
     ⟨(some 7), .faddr 0 (.tmp 3), none⟩,
     ⟨(some 8), .load 1 false (.tmp 7), none⟩,
     ⟨(some 9), .bin .neq (.tmp 6) (.tmp 8), none⟩] [2, 3, 9])
 (.cond (.tmp 9)
  (.seq (.reg [
      ⟨(some 4), .mv (.const (.bool false)), none⟩] [4])
  (.ret))
  (.skip)))
 (.seq (.seq (.reg [
     ⟨(some 10), .faddr 1 (.tmp 2), none⟩,
     ⟨(some 11), .load 1 false (.tmp 10), none⟩,
     ⟨(some 12), .faddr 1 (.tmp 3), none⟩,
     ⟨(some 13), .load 1 false (.tmp 12), none⟩,
     ⟨(some 14), .call 30 [(.tmp 11), (.tmp 13)], none⟩,
     ⟨(some 15), .un .not (.tmp 14), none⟩] [15])
 (.cond (.tmp 15)
  (.seq (.reg [
      ⟨(some 4), .mv (.const (.bool false)), none⟩] [4])
  (.ret))
  (.skip)))
 (.seq (.reg [
     ⟨(some 4), .mv (.const (.bool true)), none⟩] [4])
 (.ret))))
theorem s_laws_eqDesign : stripF Try.prog 35 [[2, 3], [2, 3, 9], [4], [15], [4], [4]] = some (c_laws_eqDesign, [.tmp 4], 16) := by kernel_rfl

/-- loop.example/g00920/spec.l28Packing -/
abbrev f_spec_l28Packing : Nat := 75
def c_spec_l28Packing : SC :=
 .seq (.reg [
     ⟨(some 6), .mv (.const (.bool false)), none⟩] [0, 1, 2])
 (.seq (.seq (.reg [
     ⟨(some 10), .mv (.tmp 0), none⟩,
     ⟨(some 11), .call 91 [(.tmp 10)], none⟩,
     ⟨(some 12), .un .not (.tmp 11), none⟩,
     ⟨(some 13), .mv (.tmp 12), none⟩,
     ⟨(some 14), .mv (.tmp 2), (some (13, false))⟩,
     ⟨(some 15), .bin .lss (.tmp 14) (.const (.int .i64 1)), (some (13, false))⟩,
     ⟨(some 16), .pick (.tmp 13) (.const (.bool true)) (.tmp 15), none⟩] [0, 1, 2, 16])
 (.cond (.tmp 16)
  (.seq (.reg [
      ⟨(some 6), .mv (.const (.bool false)), none⟩] [6])
  (.ret))
  (.skip)))
 (.seq (.seq (.reg [
     ⟨(some 7), .mv (.const (.int .i64 0)), none⟩] [0, 1, 2, 7])
 (.block 0 (.loop [0, 1, 2, 7]
   (.seq (.seq (.reg [
       ⟨(some 17), .mv (.tmp 7), none⟩,
       ⟨(some 18), .mv (.tmp 0), none⟩,
       ⟨(some 19), .nilc (.tmp 18), none⟩,
       ⟨(some 20), .faddr 1 (.tmp 19), none⟩,
       ⟨(some 21), .load 1 false (.tmp 20), none⟩,
       ⟨(some 22), .len (.tmp 21), none⟩,
       ⟨(some 23), .bin .lss (.tmp 17) (.tmp 22), none⟩] [0, 1, 2, 7, 23])
   (.cond (.tmp 23)
    (.skip)
    (.exit 0)))
   (.seq (.block 1 (.seq (.reg [
        ⟨(some 26), .mv (.tmp 0), none⟩,
        ⟨(some 27), .nilc (.tmp 26), none⟩,
        ⟨(some 28), .faddr 1 (.tmp 27), none⟩,
        ⟨(some 29), .load 1 false (.tmp 28), none⟩,
        ⟨(some 30), .mv (.tmp 7), none⟩,
        ⟨(some 31), .iaddr 1 (.tmp 29) (.tmp 30), none⟩,
        ⟨(some 32), .load 1 false (.tmp 31), none⟩,
        ⟨(some 33), .qlen (.tmp 32), none⟩,
        ⟨(some 34), .mv (.tmp 1), none⟩,
        ⟨(some 35), .bin .neq (.tmp 33) (.tmp 34), none⟩,
        ⟨(some 36), .mv (.tmp 35), none⟩,
        ⟨(some 37), .mv (.tmp 7), (some (36, false))⟩,
        ⟨(some 38), .bin .gtr (.tmp 37) (.const (.int .i64 0)), (some (36, false))⟩,
        ⟨(some 39), .mv (.tmp 38), (some (36, false))⟩,
        ⟨(some 40), .mv (.tmp 0), (some (39, true))⟩,
        ⟨(some 41), .nilc (.tmp 40), (some (39, true))⟩,
        ⟨(some 42), .faddr 1 (.tmp 41), (some (39, true))⟩,
        ⟨(some 43), .load 1 false (.tmp 42), (some (39, true))⟩,
        ⟨(some 44), .mv (.tmp 7), (some (39, true))⟩,
        ⟨(some 45), .iaddr 1 (.tmp 43) (.tmp 44), (some (39, true))⟩,
        ⟨(some 46), .load 1 false (.tmp 45), (some (39, true))⟩,
        ⟨(some 47), .mv (.tmp 0), (some (39, true))⟩,
        ⟨(some 48), .nilc (.tmp 47), (some (39, true))⟩,
        ⟨(some 49), .faddr 1 (.tmp 48), (some (39, true))⟩,
        ⟨(some 50), .load 1 false (.tmp 49), (some (39, true))⟩,
        ⟨(some 51), .mv (.tmp 7), (some (39, true))⟩,
        ⟨(some 52), .bin .sub (.tmp 51) (.const (.int .i64 1)), (some (39, true))⟩,
        ⟨(some 53), .iaddr 1 (.tmp 50) (.tmp 52), (some (39, true))⟩,
        ⟨(some 54), .load 1 false (.tmp 53), (some (39, true))⟩,
        ⟨(some 55), .qcall 120 [(.tmp 46), (.tmp 54)], (some (39, true))⟩,
        ⟨(some 56), .pick (.tmp 39) (.tmp 55) (.const (.bool false)), (some (36, false))⟩,
        ⟨(some 57), .pick (.tmp 36) (.const (.bool true)) (.tmp 56), none⟩] [0, 1, 2, 7, 57])
    (.cond (.tmp 57)
     (.seq (.reg [
         ⟨(some 6), .mv (.const (.bool false)), none⟩] [6])
     (.ret))
     (.skip))))
   (.reg [
       ⟨(some 24), .mv (.tmp 7), none⟩,
       ⟨(some 25), .bin .add (.tmp 24) (.const (.int .i64 1)), none⟩,
       ⟨(some 7), .mv (.tmp 25), none⟩] [0, 1, 2, 7]))))))
 (.seq (.reg [
     ⟨(some 58), .mv (.tmp 0), none⟩,
     ⟨(some 59), .call 94 [(.tmp 58)], none⟩,
     ⟨(some 8), .mv (.tmp 59), none⟩] [2, 8])
 (.seq (.seq (.reg [
     ⟨(some 9), .mv (.const (.int .i64 0)), none⟩] [2, 8, 9])
 (.block 2 (.loop [2, 8, 9]
   (.seq (.seq (.reg [
       ⟨(some 60), .mv (.tmp 9), none⟩,
       ⟨(some 61), .mv (.tmp 8), none⟩,
       ⟨(some 62), .len (.tmp 61), none⟩,
       ⟨(some 63), .bin .lss (.tmp 60) (.tmp 62), none⟩] [2, 8, 9, 63])
   (.cond (.tmp 63)
    (.skip)
    (.exit 2)))
   (.seq (.block 3 (.seq (.reg [
        ⟨(some 66), .mv (.tmp 8), none⟩,
        ⟨(some 67), .mv (.tmp 9), none⟩,
        ⟨(some 68), .iaddr 1 (.tmp 66) (.tmp 67), none⟩,
        ⟨(some 69), .load 1 false (.tmp 68), none⟩,
        ⟨(some 70), .mv (.tmp 2), none⟩,
        ⟨(some 71), .bin .gtr (.tmp 69) (.tmp 70), none⟩] [2, 8, 9, 71])
    (.cond (.tmp 71)
     (.seq (.reg [
         ⟨(some 6), .mv (.const (.bool false)), none⟩] [6])
     (.ret))
     (.skip))))
   (.reg [
       ⟨(some 64), .mv (.tmp 9), none⟩,
       ⟨(some 65), .bin .add (.tmp 64) (.const (.int .i64 1)), none⟩,
       ⟨(some 9), .mv (.tmp 65), none⟩] [2, 8, 9]))))))
 (.seq (.reg [
     ⟨(some 6), .mv (.const (.bool true)), none⟩] [6])
 (.ret))))))
theorem s_spec_l28Packing : stripF Try.prog 75 [[0, 1, 2], [0, 1, 2, 16], [6], [0, 1, 2, 7], [0, 1, 2, 7], [0, 1, 2, 7, 23], [0, 1, 2, 7, 57], [6], [0, 1, 2, 7], [2, 8], [2, 8, 9], [2, 8, 9], [2, 8, 9, 63], [2, 8, 9, 71], [6], [2, 8, 9], [6]] = some (c_spec_l28Packing, [.tmp 6], 72) := by kernel_rfl

/-- loop.example/g00920/impl.isDesignPacking -/
abbrev f_impl_isDesignPacking : Nat := 77
def c_impl_isDesignPacking : SC :=
 .seq (.reg [
     ⟨(some 3), .box 48 (.tmp 0), none⟩,
     ⟨(some 5), .box 2 (.tmp 2), none⟩,
     ⟨(some 6), .mv (.const (.bool false)), none⟩] [1, 3, 5])
 (.seq (.seq (.reg [
     ⟨(some 9), .faddr 1 (.tmp 3), none⟩,
     ⟨(some 10), .load 1 false (.tmp 9), none⟩,
     ⟨(some 11), .len (.tmp 10), none⟩,
     ⟨(some 12), .mv (.const (.int .i64 0)), none⟩] [1, 3, 5, 10, 11, 12])
 (.block 0 (.loop [1, 3, 5, 10, 11, 12]
   (.seq (.reg [
       ⟨(some 13), .bin .lss (.tmp 12) (.tmp 11), none⟩] [1, 3, 5, 10, 11, 12, 13])
   (.seq (.cond (.tmp 13)
    (.skip)
    (.exit 0))
   (.seq (.block 1 (.seq (.reg [
        ⟨(some 14), .mv (.tmp 12), none⟩,
        ⟨(some 15), .iaddr 1 (.tmp 10) (.tmp 12), none⟩,
        ⟨(some 16), .load 1 false (.tmp 15), none⟩,
        ⟨(some 7), .mv (.tmp 14), none⟩,
        ⟨(some 8), .mv (.tmp 16), none⟩] [1, 3, 5, 7, 8, 10, 11, 12])
    (.seq (.reg [
        ⟨(some 17), .mv (.tmp 8), none⟩,
        ⟨(some 18), .call 115 [(.tmp 17)], none⟩,
        ⟨(some 19), .mv (.tmp 1), none⟩,
        ⟨(some 20), .bin .neq (.tmp 18) (.tmp 19), none⟩,
        ⟨(some 21), .mv (.tmp 20), none⟩,
        ⟨(some 22), .mv (.tmp 7), (some (21, false))⟩,
        ⟨(some 23), .bin .gtr (.tmp 22) (.const (.int .i64 0)), (some (21, false))⟩,
        ⟨(some 24), .mv (.tmp 23), (some (21, false))⟩,
        ⟨(some 25), .faddr 1 (.tmp 3), (some (24, true))⟩,
        ⟨(some 26), .load 1 false (.tmp 25), (some (24, true))⟩,
        ⟨(some 27), .mv (.tmp 7), (some (24, true))⟩,
        ⟨(some 28), .bin .sub (.tmp 27) (.const (.int .i64 1)), (some (24, true))⟩,
        ⟨(some 29), .iaddr 1 (.tmp 26) (.tmp 28), (some (24, true))⟩,
        ⟨(some 30), .load 1 false (.tmp 29), (some (24, true))⟩,
        ⟨(some 31), .mv (.tmp 8), (some (24, true))⟩,
        ⟨(some 32), .call 124 [(.tmp 30), (.tmp 31)], (some (24, true))⟩,
        ⟨(some 33), .pick (.tmp 24) (.tmp 32) (.const (.bool false)), (some (21, false))⟩,
        ⟨(some 34), .pick (.tmp 21) (.const (.bool true)) (.tmp 33), none⟩] [1, 3, 5, 10, 11, 12, 34])
    (.cond (.tmp 34)
     (.seq (.reg [
         ⟨(some 6), .mv (.const (.bool false)), none⟩] [6])
     (.ret))
     (.skip)))))
   (.reg [
       ⟨(some 35), .bin .add (.tmp 12) (.const (.int .i64 1)), none⟩,
       ⟨(some 12), .mv (.tmp 35), none⟩] [1, 3, 5, 10, 11, 12])))))))
 (.seq (.reg [
     ⟨(some 36), .load 1 false (.tmp 5), none⟩,
     ⟨(some 37), .bin .gtr (.tmp 36) (.const (.int .i64 0)), none⟩,
     ⟨(some 38), .mv (.tmp 37), none⟩,
     ⟨(some 39), .load 2 true (.tmp 3), (some (38, true))⟩,
     ⟨(some 40), .call 95 [(.tmp 39)], (some (38, true))⟩,
     ⟨(some 41), .mkf 125 [(.tmp 5)], (some (38, true))⟩,
     ⟨(some 42), .call 86 [(.tmp 40), (.tmp 41)], (some (38, true))⟩,
     ⟨(some 43), .un .not (.tmp 42), (some (38, true))⟩,
     ⟨(some 44), .pick (.tmp 38) (.tmp 43) (.const (.bool false)), none⟩,
     ⟨(some 6), .mv (.tmp 44), none⟩] [6])
 (.ret)))
theorem s_impl_isDesignPacking : stripF Try.prog 77 [[1, 3, 5], [1, 3, 5, 10, 11, 12], [1, 3, 5, 10, 11, 12], [1, 3, 5, 10, 11, 12, 13], [1, 3, 5, 7, 8, 10, 11, 12], [1, 3, 5, 10, 11, 12, 34], [6], [1, 3, 5, 10, 11, 12], [6]] = some (c_impl_isDesignPacking, [.tmp 6], 45) := by kernel_rfl

/-- loop.example/g00920/spec.l10Pairs -/
abbrev f_spec_l10Pairs : Nat := 94
def c_spec_l10Pairs : SC :=
 .seq (.reg [
     ⟨(some 2), .mv (.const (.slice none 0 0)), none⟩] [0])
 (.seq (.reg [
     ⟨(some 8), .bslice 2 1 0 [] [], none⟩,
     ⟨(some 3), .mv (.tmp 8), none⟩] [0, 3])
 (.seq (.seq (.reg [
     ⟨(some 4), .mv (.const (.int .i64 0)), none⟩] [0, 3, 4])
 (.block 0 (.loop [0, 3, 4]
   (.seq (.seq (.reg [
       ⟨(some 9), .mv (.tmp 4), none⟩,
       ⟨(some 10), .mv (.tmp 0), none⟩,
       ⟨(some 11), .nilc (.tmp 10), none⟩,
       ⟨(some 12), .faddr 0 (.tmp 11), none⟩,
       ⟨(some 13), .load 1 false (.tmp 12), none⟩,
       ⟨(some 14), .bin .lss (.tmp 9) (.tmp 13), none⟩] [0, 3, 4, 14])
   (.cond (.tmp 14)
    (.skip)
    (.exit 0)))
   (.seq (.block 1 (.seq (.reg [
        ⟨(some 17), .mv (.tmp 4), none⟩,
        ⟨(some 18), .bin .add (.tmp 17) (.const (.int .i64 1)), none⟩,
        ⟨(some 5), .mv (.tmp 18), none⟩] [0, 3, 4, 5])
    (.block 2 (.loop [0, 3, 4, 5]
      (.seq (.seq (.reg [
          ⟨(some 19), .mv (.tmp 5), none⟩,
          ⟨(some 20), .mv (.tmp 0), none⟩,
          ⟨(some 21), .nilc (.tmp 20), none⟩,
          ⟨(some 22), .faddr 0 (.tmp 21), none⟩,
          ⟨(some 23), .load 1 false (.tmp 22), none⟩,
          ⟨(some 24), .bin .lss (.tmp 19) (.tmp 23), none⟩] [0, 3, 4, 5, 24])
      (.cond (.tmp 24)
       (.skip)
       (.exit 2)))
      (.seq (.block 3 (.seq (.reg [
           ⟨(some 6), .mv (.const (.int .i64 0)), none⟩] [0, 3, 4, 5, 6])
       (.seq (.seq (.reg [
           ⟨(some 7), .mv (.const (.int .i64 0)), none⟩] [0, 3, 4, 5, 6, 7])
       (.block 4 (.loop [0, 3, 4, 5, 6, 7]
         (.seq (.seq (.reg [
             ⟨(some 27), .mv (.tmp 7), none⟩,
             ⟨(some 28), .mv (.tmp 0), none⟩,
             ⟨(some 29), .nilc (.tmp 28), none⟩,
             ⟨(some 30), .faddr 1 (.tmp 29), none⟩,
             ⟨(some 31), .load 1 false (.tmp 30), none⟩,
             ⟨(some 32), .len (.tmp 31), none⟩,
             ⟨(some 33), .bin .lss (.tmp 27) (.tmp 32), none⟩] [0, 3, 4, 5, 6, 7, 33])
         (.cond (.tmp 33)
          (.skip)
          (.exit 4)))
         (.seq (.block 5 (.seq (.reg [
              ⟨(some 36), .mv (.tmp 0), none⟩,
              ⟨(some 37), .nilc (.tmp 36), none⟩,
              ⟨(some 38), .faddr 1 (.tmp 37), none⟩,
              ⟨(some 39), .load 1 false (.tmp 38), none⟩,
              ⟨(some 40), .mv (.tmp 7), none⟩,
              ⟨(some 41), .iaddr 1 (.tmp 39) (.tmp 40), none⟩,
              ⟨(some 42), .load 1 false (.tmp 41), none⟩,
              ⟨(some 43), .mv (.tmp 4), none⟩,
              ⟨(some 44), .call 59 [(.tmp 42), (.tmp 43)], none⟩,
              ⟨(some 45), .mv (.tmp 44), none⟩,
              ⟨(some 46), .mv (.tmp 0), (some (45, true))⟩,
              ⟨(some 47), .nilc (.tmp 46), (some (45, true))⟩,
              ⟨(some 48), .faddr 1 (.tmp 47), (some (45, true))⟩,
              ⟨(some 49), .load 1 false (.tmp 48), (some (45, true))⟩,
              ⟨(some 50), .mv (.tmp 7), (some (45, true))⟩,
              ⟨(some 51), .iaddr 1 (.tmp 49) (.tmp 50), (some (45, true))⟩,
              ⟨(some 52), .load 1 false (.tmp 51), (some (45, true))⟩,
              ⟨(some 53), .mv (.tmp 5), (some (45, true))⟩,
              ⟨(some 54), .call 59 [(.tmp 52), (.tmp 53)], (some (45, true))⟩,
              ⟨(some 55), .pick (.tmp 45) (.tmp 54) (.const (.bool false)), none⟩] [0, 3, 4, 5, 6, 7, 55])
          (.cond (.tmp 55)
           (.reg [
               ⟨(some 56), .mv (.tmp 6), none⟩,
               ⟨(some 57), .bin .add (.tmp 56) (.const (.int .i64 1)), none⟩,
               ⟨(some 6), .mv (.tmp 57), none⟩] [0, 3, 4, 5, 6, 7])
           (.skip))))
         (.reg [
             ⟨(some 34), .mv (.tmp 7), none⟩,
             ⟨(some 35), .bin .add (.tmp 34) (.const (.int .i64 1)), none⟩,
             ⟨(some 7), .mv (.tmp 35), none⟩] [0, 3, 4, 5, 6, 7]))))))
       (.reg [
           ⟨(some 58), .mv (.tmp 3), none⟩,
           ⟨(some 59), .mv (.tmp 6), none⟩,
           ⟨(some 60), .bslice 2 1 1 [(.int .i64 0)] [(0, (.tmp 59))], none⟩,
           ⟨(some 61), .app 2 1 8 (.tmp 58) (.tmp 60), none⟩,
           ⟨(some 3), .mv (.tmp 61), none⟩] [0, 3, 4, 5]))))
      (.reg [
          ⟨(some 25), .mv (.tmp 5), none⟩,
          ⟨(some 26), .bin .add (.tmp 25) (.const (.int .i64 1)), none⟩,
          ⟨(some 5), .mv (.tmp 26), none⟩] [0, 3, 4, 5])))))))
   (.reg [
       ⟨(some 15), .mv (.tmp 4), none⟩,
       ⟨(some 16), .bin .add (.tmp 15) (.const (.int .i64 1)), none⟩,
       ⟨(some 4), .mv (.tmp 16), none⟩] [0, 3, 4]))))))
 (.seq (.reg [
     ⟨(some 62), .mv (.tmp 3), none⟩,
     ⟨(some 2), .mv (.tmp 62), none⟩] [2])
 (.ret))))
theorem s_spec_l10Pairs : stripF Try.prog 94 [[0], [0, 3], [0, 3, 4], [0, 3, 4], [0, 3, 4, 14], [0, 3, 4, 5], [0, 3, 4, 5], [0, 3, 4, 5, 24], [0, 3, 4, 5, 6], [0, 3, 4, 5, 6, 7], [0, 3, 4, 5, 6, 7], [0, 3, 4, 5, 6, 7, 33], [0, 3, 4, 5, 6, 7, 55], [0, 3, 4, 5, 6, 7], [0, 3, 4, 5, 6, 7], [0, 3, 4, 5], [0, 3, 4, 5], [0, 3, 4], [2]] = some (c_spec_l10Pairs, [.tmp 2], 63) := by kernel_rfl

/-- loop.example/g00920/impl.pairCounts -/
abbrev f_impl_pairCounts : Nat := 95
def c_impl_pairCounts : SC :=
 .seq (.reg [
     ⟨(some 1), .box 48 (.tmp 0), none⟩,
     ⟨(some 2), .mv (.const (.slice none 0 0)), none⟩] [1])
 (.seq (.reg [
     ⟨(some 13), .faddr 0 (.tmp 1), none⟩,
     ⟨(some 14), .load 1 false (.tmp 13), none⟩,
     ⟨(some 15), .call 134 [(.tmp 14)], none⟩,
     ⟨(some 3), .mv (.tmp 15), none⟩] [1, 3])
 (.seq (.seq (.reg [
     ⟨(some 16), .faddr 1 (.tmp 1), none⟩,
     ⟨(some 17), .load 1 false (.tmp 16), none⟩,
     ⟨(some 18), .len (.tmp 17), none⟩,
     ⟨(some 19), .mv (.const (.int .i64 0)), none⟩] [3, 17, 18, 19])
 (.block 0 (.loop [3, 17, 18, 19]
   (.seq (.reg [
       ⟨(some 20), .bin .lss (.tmp 19) (.tmp 18), none⟩] [3, 17, 18, 19, 20])
   (.seq (.cond (.tmp 20)
    (.skip)
    (.exit 0))
   (.seq (.block 1 (.seq (.reg [
        ⟨(some 21), .iaddr 1 (.tmp 17) (.tmp 19), none⟩,
        ⟨(some 22), .load 1 false (.tmp 21), none⟩,
        ⟨(some 5), .mv (.tmp 22), none⟩] [3, 5, 17, 18, 19])
    (.seq (.reg [
        ⟨(some 23), .mv (.tmp 5), none⟩,
        ⟨(some 24), .len (.tmp 23), none⟩,
        ⟨(some 25), .mv (.const (.int .i64 0)), none⟩] [3, 5, 17, 18, 19, 23, 24, 25])
    (.block 2 (.loop [3, 5, 17, 18, 19, 23, 24, 25]
      (.seq (.reg [
          ⟨(some 26), .bin .lss (.tmp 25) (.tmp 24), none⟩] [3, 5, 17, 18, 19, 23, 24, 25, 26])
      (.seq (.cond (.tmp 26)
       (.skip)
       (.exit 2))
      (.seq (.block 3 (.seq (.reg [
           ⟨(some 27), .mv (.tmp 25), none⟩,
           ⟨(some 28), .iaddr 1 (.tmp 23) (.tmp 25), none⟩,
           ⟨(some 29), .load 1 false (.tmp 28), none⟩,
           ⟨(some 6), .mv (.tmp 27), none⟩,
           ⟨(some 7), .mv (.tmp 29), none⟩] [3, 5, 6, 7, 17, 18, 19, 23, 24, 25])
       (.seq (.reg [
           ⟨(some 30), .mv (.tmp 5), none⟩,
           ⟨(some 31), .mv (.tmp 6), none⟩,
           ⟨(some 32), .bin .add (.tmp 31) (.const (.int .i64 1)), none⟩,
           ⟨(some 33), .slc 1 (.tmp 30) (some (.tmp 32)) none, none⟩,
           ⟨(some 34), .len (.tmp 33), none⟩,
           ⟨(some 35), .mv (.const (.int .i64 0)), none⟩] [3, 5, 7, 17, 18, 19, 23, 24, 25, 33, 34, 35])
       (.block 4 (.loop [3, 5, 7, 17, 18, 19, 23, 24, 25, 33, 34, 35]
         (.seq (.reg [
             ⟨(some 36), .bin .lss (.tmp 35) (.tmp 34), none⟩] [3, 5, 7, 17, 18, 19, 23, 24, 25, 33, 34, 35, 36])
         (.seq (.cond (.tmp 36)
          (.skip)
          (.exit 4))
         (.seq (.block 5 (.seq (.reg [
              ⟨(some 37), .iaddr 1 (.tmp 33) (.tmp 35), none⟩,
              ⟨(some 38), .load 1 false (.tmp 37), none⟩,
              ⟨(some 9), .mv (.tmp 38), none⟩] [3, 5, 7, 9, 17, 18, 19, 23, 24, 25, 33, 34, 35])
          (.reg [
              ⟨(some 39), .mv (.tmp 3), none⟩,
              ⟨(some 40), .mv (.tmp 7), none⟩,
              ⟨(some 41), .iaddr 1 (.tmp 39) (.tmp 40), none⟩,
              ⟨(some 42), .load 1 false (.tmp 41), none⟩,
              ⟨(some 43), .mv (.tmp 9), none⟩,
              ⟨(some 44), .iaddr 1 (.tmp 42) (.tmp 43), none⟩,
              ⟨(some 45), .load 1 false (.tmp 44), none⟩,
              ⟨(some 46), .bin .add (.tmp 45) (.const (.int .i64 1)), none⟩,
              ⟨(some 47), .iaddr 1 (.tmp 42) (.tmp 43), none⟩,
              ⟨none, .store 1 (.tmp 47) (.tmp 46), none⟩] [3, 5, 7, 17, 18, 19, 23, 24, 25, 33, 34, 35])))
         (.reg [
             ⟨(some 48), .bin .add (.tmp 35) (.const (.int .i64 1)), none⟩,
             ⟨(some 35), .mv (.tmp 48), none⟩] [3, 5, 7, 17, 18, 19, 23, 24, 25, 33, 34, 35])))))))))
      (.reg [
          ⟨(some 49), .bin .add (.tmp 25) (.const (.int .i64 1)), none⟩,
          ⟨(some 25), .mv (.tmp 49), none⟩] [3, 5, 17, 18, 19, 23, 24, 25])))))))))
   (.reg [
       ⟨(some 50), .bin .add (.tmp 19) (.const (.int .i64 1)), none⟩,
       ⟨(some 19), .mv (.tmp 50), none⟩] [3, 17, 18, 19])))))))
 (.seq (.reg [
     ⟨(some 10), .mv (.const (.slice none 0 0)), none⟩] [3, 10])
 (.seq (.seq (.reg [
     ⟨(some 51), .mv (.tmp 3), none⟩,
     ⟨(some 52), .len (.tmp 51), none⟩,
     ⟨(some 53), .mv (.const (.int .i64 0)), none⟩] [10, 51, 52, 53])
 (.block 6 (.loop [10, 51, 52, 53]
   (.seq (.reg [
       ⟨(some 54), .bin .lss (.tmp 53) (.tmp 52), none⟩] [10, 51, 52, 53, 54])
   (.seq (.cond (.tmp 54)
    (.skip)
    (.exit 6))
   (.seq (.block 7 (.seq (.reg [
        ⟨(some 55), .mv (.tmp 53), none⟩,
        ⟨(some 56), .iaddr 1 (.tmp 51) (.tmp 53), none⟩,
        ⟨(some 57), .load 1 false (.tmp 56), none⟩,
        ⟨(some 11), .mv (.tmp 55), none⟩,
        ⟨(some 12), .mv (.tmp 57), none⟩] [10, 11, 12, 51, 52, 53])
    (.reg [
        ⟨(some 58), .mv (.tmp 10), none⟩,
        ⟨(some 59), .mv (.tmp 12), none⟩,
        ⟨(some 60), .mv (.tmp 11), none⟩,
        ⟨(some 61), .bin .add (.tmp 60) (.const (.int .i64 1)), none⟩,
        ⟨(some 62), .slc 1 (.tmp 59) (some (.tmp 61)) none, none⟩,
        ⟨(some 63), .app 2 1 8 (.tmp 58) (.tmp 62), none⟩,
        ⟨(some 10), .mv (.tmp 63), none⟩] [10, 51, 52, 53])))
   (.reg [
       ⟨(some 64), .bin .add (.tmp 53) (.const (.int .i64 1)), none⟩,
       ⟨(some 53), .mv (.tmp 64), none⟩] [10, 51, 52, 53])))))))
 (.seq (.reg [
     ⟨(some 65), .mv (.tmp 10), none⟩,
     ⟨(some 2), .mv (.tmp 65), none⟩] [2])
 (.ret))))))
theorem s_impl_pairCounts : stripF Try.prog 95 [[1], [1, 3], [3, 17, 18, 19], [3, 17, 18, 19], [3, 17, 18, 19, 20], [3, 5, 17, 18, 19], [3, 5, 17, 18, 19, 23, 24, 25], [3, 5, 17, 18, 19, 23, 24, 25], [3, 5, 17, 18, 19, 23, 24, 25, 26], [3, 5, 6, 7, 17, 18, 19, 23, 24, 25], [3, 5, 7, 17, 18, 19, 23, 24, 25, 33, 34, 35], [3, 5, 7, 17, 18, 19, 23, 24, 25, 33, 34, 35], [3, 5, 7, 17, 18, 19, 23, 24, 25, 33, 34, 35, 36], [3, 5, 7, 9, 17, 18, 19, 23, 24, 25, 33, 34, 35], [3, 5, 7, 17, 18, 19, 23, 24, 25, 33, 34, 35], [3, 5, 7, 17, 18, 19, 23, 24, 25, 33, 34, 35], [3, 5, 17, 18, 19, 23, 24, 25], [3, 17, 18, 19], [3, 10], [10, 51, 52, 53], [10, 51, 52, 53], [10, 51, 52, 53, 54], [10, 11, 12, 51, 52, 53], [10, 51, 52, 53], [10, 51, 52, 53], [2]] = some (c_impl_pairCounts, [.tmp 2], 66) := by kernel_rfl

/-- loop.example/g00920/spec.l00Same -/
abbrev f_spec_l00Same : Nat := 120
def c_spec_l00Same : SC :=
 .seq (.reg [
     ⟨(some 4), .mv (.const (.bool false)), none⟩] [0, 1])
 (.seq (.seq (.reg [
     ⟨(some 6), .mv (.tmp 0), none⟩,
     ⟨(some 7), .len (.tmp 6), none⟩,
     ⟨(some 8), .mv (.tmp 1), none⟩,
     ⟨(some 9), .len (.tmp 8), none⟩,
     ⟨(some 10), .bin .neq (.tmp 7) (.tmp 9), none⟩] [0, 1, 10])
 (.cond (.tmp 10)
  (.seq (.reg [
      ⟨(some 4), .mv (.const (.bool false)), none⟩] [4])
  (.ret))
  (.skip)))
 (.seq (.seq (.reg [
     ⟨(some 5), .mv (.const (.int .i64 0)), none⟩] [0, 1, 5])
 (.block 0 (.loop [0, 1, 5]
   (.seq (.seq (.reg [
       ⟨(some 11), .mv (.tmp 5), none⟩,
       ⟨(some 12), .mv (.tmp 0), none⟩,
       ⟨(some 13), .len (.tmp 12), none⟩,
       ⟨(some 14), .bin .lss (.tmp 11) (.tmp 13), none⟩] [0, 1, 5, 14])
   (.cond (.tmp 14)
    (.skip)
    (.exit 0)))
   (.seq (.block 1 (.seq (.reg [
        ⟨(some 17), .mv (.tmp 0), none⟩,
        ⟨(some 18), .mv (.tmp 5), none⟩,
        ⟨(some 19), .iaddr 1 (.tmp 17) (.tmp 18), none⟩,
        ⟨(some 20), .load 1 false (.tmp 19), none⟩,
        ⟨(some 21), .mv (.tmp 1), none⟩,
        ⟨(some 22), .mv (.tmp 5), none⟩,
        ⟨(some 23), .iaddr 1 (.tmp 21) (.tmp 22), none⟩,
        ⟨(some 24), .load 1 false (.tmp 23), none⟩,
        ⟨(some 25), .bin .neq (.tmp 20) (.tmp 24), none⟩] [0, 1, 5, 25])
    (.cond (.tmp 25)
     (.seq (.reg [
         ⟨(some 4), .mv (.const (.bool false)), none⟩] [4])
     (.ret))
     (.skip))))
   (.reg [
       ⟨(some 15), .mv (.tmp 5), none⟩,
       ⟨(some 16), .bin .add (.tmp 15) (.const (.int .i64 1)), none⟩,
       ⟨(some 5), .mv (.tmp 16), none⟩] [0, 1, 5]))))))
 (.seq (.reg [
     ⟨(some 4), .mv (.const (.bool true)), none⟩] [4])
 (.ret))))
theorem s_spec_l00Same : stripF Try.prog 120 [[0, 1], [0, 1, 10], [4], [0, 1, 5], [0, 1, 5], [0, 1, 5, 14], [0, 1, 5, 25], [4], [0, 1, 5], [4]] = some (c_spec_l00Same, [.tmp 4], 26) := by kernel_rfl

/-- slices.Equal[[]int64,int64] -/
abbrev f_slices_Equal_Lint64_int64 : Nat := 124
def c_slices_Equal_Lint64_int64 : SC :=
 .seq (.reg [
     ⟨(some 4), .mv (.const (.bool false)), none⟩] [0, 1])
 (.seq (.seq (.reg [
     ⟨(some 6), .mv (.tmp 0), none⟩,
     ⟨(some 7), .len (.tmp 6), none⟩,
     ⟨(some 8), .mv (.tmp 1), none⟩,
     ⟨(some 9), .len (.tmp 8), none⟩,
     ⟨(some 10), .bin .neq (.tmp 7) (.tmp 9), none⟩] [0, 1, 10])
 (.cond (.tmp 10)
  (.seq (.reg [
      ⟨(some 4), .mv (.const (.bool false)), none⟩] [4])
  (.ret))
  (.skip)))
 (.seq (.seq (.reg [
     ⟨(some 11), .mv (.tmp 0), none⟩,
     ⟨(some 12), .len (.tmp 11), none⟩,
     ⟨(some 13), .mv (.const (.int .i64 0)), none⟩] [0, 1, 12, 13])
 (.block 0 (.loop [0, 1, 12, 13]
   (.seq (.reg [
       ⟨(some 14), .bin .lss (.tmp 13) (.tmp 12), none⟩] [0, 1, 12, 13, 14])
   (.seq (.cond (.tmp 14)
    (.skip)
    (.exit 0))
   (.seq (.block 1 (.seq (.reg [
        ⟨(some 15), .mv (.tmp 13), none⟩,
        ⟨(some 5), .mv (.tmp 15), none⟩] [0, 1, 5, 12, 13])
    (.seq (.reg [
        ⟨(some 16), .mv (.tmp 0), none⟩,
        ⟨(some 17), .mv (.tmp 5), none⟩,
        ⟨(some 18), .iaddr 1 (.tmp 16) (.tmp 17), none⟩,
        ⟨(some 19), .load 1 false (.tmp 18), none⟩,
        ⟨(some 20), .mv (.tmp 1), none⟩,
        ⟨(some 21), .mv (.tmp 5), none⟩,
        ⟨(some 22), .iaddr 1 (.tmp 20) (.tmp 21), none⟩,
        ⟨(some 23), .load 1 false (.tmp 22), none⟩,
        ⟨(some 24), .bin .neq (.tmp 19) (.tmp 23), none⟩] [0, 1, 12, 13, 24])
    (.cond (.tmp 24)
     (.seq (.reg [
         ⟨(some 4), .mv (.const (.bool false)), none⟩] [4])
     (.ret))
     (.skip)))))
   (.reg [
       ⟨(some 25), .bin .add (.tmp 13) (.const (.int .i64 1)), none⟩,
       ⟨(some 13), .mv (.tmp 25), none⟩] [0, 1, 12, 13])))))))
 (.seq (.reg [
     ⟨(some 4), .mv (.const (.bool true)), none⟩] [4])
 (.ret))))
theorem s_slices_Equal_Lint64_int64 : stripF Try.prog 124 [[0, 1], [0, 1, 10], [4], [0, 1, 12, 13], [0, 1, 12, 13], [0, 1, 12, 13, 14], [0, 1, 5, 12, 13], [0, 1, 12, 13, 24], [4], [0, 1, 12, 13], [4]] = some (c_slices_Equal_Lint64_int64, [.tmp 4], 26) := by kernel_rfl

/-- loop.example/g00920/impl.isDesignPacking$1 -/
abbrev f_impl_isDesignPacking_c1 : Nat := 125
def c_impl_isDesignPacking_c1 : SC :=
 .seq (.reg [
     ⟨(some 3), .mv (.const (.bool false)), none⟩] [0, 1])
 (.seq (.reg [
     ⟨(some 4), .mv (.tmp 0), none⟩,
     ⟨(some 5), .load 1 false (.tmp 1), none⟩,
     ⟨(some 6), .bin .gtr (.tmp 4) (.tmp 5), none⟩,
     ⟨(some 3), .mv (.tmp 6), none⟩] [3])
 (.ret))
theorem s_impl_isDesignPacking_c1 : stripF Try.prog 125 [[0, 1], [3]] = some (c_impl_isDesignPacking_c1, [.tmp 3], 7) := by kernel_rfl

/-- loop.example/g00920/impl.emptySquare -/
abbrev f_impl_emptySquare : Nat := 134
def c_impl_emptySquare : SC :=
 .seq (.reg [
     ⟨(some 2), .mv (.const (.slice none 0 0)), none⟩] [0])
 (.seq (.reg [
     ⟨(some 3), .mv (.tmp 0), none⟩,
     ⟨(some 4), .call 149 [(.tmp 3), (.func 150)], none⟩,
     ⟨(some 2), .mv (.tmp 4), none⟩] [2])
 (.ret))
theorem s_impl_emptySquare : stripF Try.prog 134 [[0], [2]] = some (c_impl_emptySquare, [.tmp 2], 5) := by kernel_rfl

/-- loop.example/g00920/impl.emptySquare$1 -/
abbrev f_impl_emptySquare_c1 : Nat := 150
def c_impl_emptySquare_c1 : SC :=
 .seq (.reg [
     ⟨(some 4), .mv (.const (.int .i64 0)), none⟩] [])
 (.seq (.reg [
     ⟨(some 4), .mv (.const (.int .i64 0)), none⟩] [4])
 (.ret))
theorem s_impl_emptySquare_c1 : stripF Try.prog 150 [[], [4]] = some (c_impl_emptySquare_c1, [.tmp 4], 5) := by kernel_rfl


theorem flenA {α β : Type} (l : List α) (f : α → List β) (m : Nat) (h : ∀ x ∈ l, (f x).length ≤ m) : (l.flatMap f).length ≤ l.length * m := by
  induction l with
  | nil => simp
  | cons x l ih =>
    have h1 := h x (by simp)
    have h2 := ih (fun y hy => h y (by simp [hy]))
    simp only [List.flatMap_cons, List.length_append, List.length_cons, Nat.succ_mul]; omega

section
variable {v w k x y n : Nat} {xss : List (List Int)} {row : List Int}
theorem sqB_0 : (sqB v w k xss)[0]? = some ⟨v, 26, 1, nmsV w (k + 1) xss⟩ := rfl
theorem nmsV_take (h : xss.length ≤ n) : (nmsV w k xss).take n = nmsV w k xss := List.take_of_length_le (by rw [nmsV_length]; exact h)
theorem sqB_cell (hx : x < xss.length) (hr : xss.getD x [] = row) : (nmsV w (k + 1) xss)[x]? = some (.nm (k + (x + 1)) w 0 row.length) := by
  rw [nmsV_get, List.getElem?_eq_getElem hx, ← hr]
  simp [List.getElem?_eq_getElem hx]; omega
theorem sqB_get (hx : x < xss.length) (hr : xss.getD x [] = row) : (sqB v w k xss)[x + 1]? = some ⟨w, 2, 1, row.map I⟩ := by
  simp [sqB, rowsV, List.getElem?_eq_getElem hx, ← hr]
theorem sqB_set {ys : List Int} (hx : x < xss.length) (hr : xss.getD x [] = row) (hy : ys.length = row.length) : (sqB v w k xss).set (x + 1) ⟨w, 2, 1, ys.map I⟩ = sqB v w k (xss.set x ys) := by
  unfold sqB
  rw [List.set_cons_succ]
  congr 1
  · congr 1
    refine nmsV_congr _ _ ?_
    apply List.ext_getElem?
    intro i
    rw [List.getElem?_map, List.getElem?_map, List.getElem?_set]
    by_cases hi : x = i
    · subst hi; simp [hx, List.getElem?_eq_getElem hx] at hr ⊢; rw [hr, hy]
    · simp [hi]
  · unfold rowsV
    simp only [List.map_set]
end

theorem emptySquare_c1_fn (x y : Int) : PFn Try.prog f_impl_emptySquare_c1 [I x, I y] (I 0) := by
  intro H; refine ACalls.introB s_impl_emptySquare_c1 (by simp) ?_; intro hB hA; unfold c_impl_emptySquare_c1; simp (config := { maxSteps := 1000000 }) (disch := (first | omega | (simp only [go_sem]; try omega))) only [go_sem, Nat.reduceAdd, Nat.reduceEqDiff, Nat.reduceLeDiff, Nat.reduceMul, Nat.reduceLT, reduceIte, Int.reduceToNat, w64_id, cast_succ]
  repeat (first | (with_reducible first | refine SW.seq ?_ | refine SW.block ?_ | refine SW.rowC ?_ | refine SW.skip ?_ | refine SW.exit ?_ | intro _ | refine And.intro (by omega) ?_) | simp (config := { maxSteps := 1000000 }) (disch := (first | omega | (simp only [go_sem]; try omega))) only [go_sem, Nat.reduceAdd, Nat.reduceEqDiff, Nat.reduceLeDiff, Nat.reduceMul, Nat.reduceLT, reduceIte, Int.reduceToNat, w64_id, cast_succ])
  refine SW.ret ?_; (try simp only [go_sem]); (first | refine FunPost.one ?_ | refine FunPost.two ?_ | refine FunPost.three ?_); (try simp (config := { maxSteps := 1000000 }) (disch := (first | omega | (simp only [go_sem]; try omega))) only [go_sem, Nat.reduceAdd, Nat.reduceEqDiff, Nat.reduceLeDiff, Nat.reduceMul, Nat.reduceLT, reduceIte, Int.reduceToNat, w64_id, cast_succ]); (first | (with_reducible refine GR.drop ?_ ?_; (simp only [go_sem, and_self, and_true, true_and, implies_true, List.take_succ_cons, List.take_zero])) | refine GR.of ?_); refine ⟨?_, rfl⟩; (try with_reducible rfl)
theorem emptySquare_ok (H : List Blk) (n : Nat) (hn : n ≤ 1000) : ACalls Try.prog f_impl_emptySquare [I n] H (fun r H' => r = .nm H.length n 0 n ∧ H' = H ++ sqB n n H.length (sqF n (fun _ _ => 0) n)) := by
  refine ACalls.introB s_impl_emptySquare (by simp) ?_; intro hB hA; unfold c_impl_emptySquare; simp (config := { maxSteps := 1000000 }) (disch := (first | omega | (simp only [go_sem]; try omega))) only [go_sem, Nat.reduceAdd, Nat.reduceEqDiff, Nat.reduceLeDiff, Nat.reduceMul, Nat.reduceLT, reduceIte, Int.reduceToNat, w64_id, cast_succ]
  repeat (first | (with_reducible first | refine SW.seq ?_ | refine SW.block ?_ | refine SW.rowC ?_ | refine SW.skip ?_ | refine SW.exit ?_ | intro _ | refine And.intro (by omega) ?_) | simp (config := { maxSteps := 1000000 }) (disch := (first | omega | (simp only [go_sem]; try omega))) only [go_sem, Nat.reduceAdd, Nat.reduceEqDiff, Nat.reduceLeDiff, Nat.reduceMul, Nat.reduceLT, reduceIte, Int.reduceToNat, w64_id, cast_succ])
  refine (filledSquare_ok _ n hn _ [] (fun _ _ => 0) (by kernel_rfl) (fun x y ext _ _ => emptySquare_c1_fn x y _)).mono ?_
  rintro r H' ⟨rfl, rfl⟩
  repeat (first | (with_reducible first | refine SW.seq ?_ | refine SW.block ?_ | refine SW.rowC ?_ | refine SW.skip ?_ | refine SW.exit ?_ | intro _ | refine And.intro (by omega) ?_) | simp (config := { maxSteps := 1000000 }) (disch := (first | omega | (simp only [go_sem]; try omega))) only [go_sem, Nat.reduceAdd, Nat.reduceEqDiff, Nat.reduceLeDiff, Nat.reduceMul, Nat.reduceLT, reduceIte, Int.reduceToNat, w64_id, cast_succ])
  refine SW.ret ?_; (try simp only [go_sem]); (first | refine FunPost.one ?_ | refine FunPost.two ?_ | refine FunPost.three ?_); (try simp (config := { maxSteps := 1000000 }) (disch := (first | omega | (simp only [go_sem]; try omega))) only [go_sem, Nat.reduceAdd, Nat.reduceEqDiff, Nat.reduceLeDiff, Nat.reduceMul, Nat.reduceLT, reduceIte, Int.reduceToNat, w64_id, cast_succ])
  exact GR.of ⟨rfl, rfl⟩

abbrev tyD : Nat := 48
theorem pairCounts_new (n : Nat) (xss : List (List Int)) (hn : n ≤ 32) (hx : ∀ s ∈ xss, asc 0 (n - 1) s = true) (hl : xss.length ≤ 128) : NewS Try.prog f_impl_pairCounts [.agg [I n, ilSS xss]] (pairsL n xss) := by
  intro H
  refine ACalls.introB s_impl_pairCounts (by simp) ?_; intro hB hA; unfold c_impl_pairCounts; simp (config := { maxSteps := 1000000 }) (disch := (first | omega | (simp only [go_sem]; try omega))) only [go_sem, Nat.reduceAdd, Nat.reduceEqDiff, Nat.reduceLeDiff, Nat.reduceMul, Nat.reduceLT, reduceIte, Int.reduceToNat, w64_id, cast_succ]
  repeat (first | (with_reducible first | refine SW.seq ?_ | refine SW.block ?_ | refine SW.rowC ?_ | refine SW.skip ?_ | refine SW.exit ?_ | intro _ | refine And.intro (by omega) ?_) | simp (config := { maxSteps := 1000000 }) (disch := (first | omega | (simp only [go_sem]; try omega))) only [go_sem, Nat.reduceAdd, Nat.reduceEqDiff, Nat.reduceLeDiff, Nat.reduceMul, Nat.reduceLT, reduceIte, Int.reduceToNat, w64_id, cast_succ])
  refine (emptySquare_ok _ n (by omega)).mono ?_
  rintro r H1 ⟨rfl, rfl⟩
  rw [cnt2_nil]
  have pw : (H ++ [(⟨0, tyD, 1, [I n, ilSS xss]⟩ : Blk)])[H.length]? = some ⟨0, tyD, 1, [I n, ilSS xss]⟩ := by simp
  have hBb : HB (H ++ [(⟨0, tyD, 1, [I n, ilSS xss]⟩ : Blk)]) := hB.app (k := H.length) (by (simp only [go_sem, Nat.reduceAdd, Nat.reduceEqDiff, reduceIte, go_sem, and_self, and_true, true_and, implies_true, List.take_succ_cons, List.take_zero, and_true, true_and]; try omega)) (by simp)
  have hHl : (H ++ [(⟨0, tyD, 1, [I n, ilSS xss]⟩ : Blk)]).length = H.length + 1 := by simp
  generalize hb : H ++ [(⟨0, tyD, 1, [I n, ilSS xss]⟩ : Blk)] = Hb at *
  have ldw : ∀ ext off, acell1 (Hb ++ ext) (.pc H.length 0 off) = [I n, ilSS xss][off]? := fun ext off => pc_ld (get_appU pw ext)
  have alw : ∀ ext off, alive (Hb ++ ext) (.pc H.length 0 off) = True := fun ext off => pc_alive (get_appU pw ext)
  repeat (first | (with_reducible first | refine SW.seq ?_ | refine SW.block ?_ | refine SW.rowC ?_ | refine SW.skip ?_ | refine SW.exit ?_ | intro _ | refine And.intro (by omega) ?_) | simp (config := { maxSteps := 1000000 }) (disch := (first | omega | (simp only [go_sem]; try omega))) only [go_sem, Nat.reduceAdd, Nat.reduceEqDiff, Nat.reduceLeDiff, Nat.reduceMul, Nat.reduceLT, reduceIte, Int.reduceToNat, w64_id, cast_succ, ldw, alw])
  refine SW.loopE (fun E0 H0 q E' H' => ∃ (pre post : List (List Int)), xss = pre ++ post ∧ q = post.length ∧ E' = aput E0 19 (I pre.length) ∧ H' = Hb ++ sqB n n Hb.length (cnt2 n (pre.flatMap pairsB))) xss.length ⟨[], xss, rfl, rfl, rfl, rfl⟩ ?_
  rintro q E' H' ⟨pre, post, hp, rfl, rfl, rfl⟩
  have hL : (pre.flatMap pairsB).length ≤ 131072 := by
    have h1 := flenA pre pairsB 1024 (fun s hs => by
      have h2 := pairsB_len s
      have h3 := asc_len (hx s (by rw [hp]; simp [hs]))
      have h4 : s.length ≤ 32 := by
        rcases h3 with rfl | h3
        · simp
        · omega
      have h5 : s.length * s.length ≤ 32 * 32 := Nat.mul_le_mul h4 h4
      omega)
    have h2 : pre.length ≤ 128 := by rw [hp] at hl; simp at hl; omega
    omega
  generalize hL0 : pre.flatMap pairsB = L at *
  simp (config := { maxSteps := 1000000 }) (disch := (first | omega | (simp only [go_sem]; try omega))) only [go_sem, Nat.reduceAdd, Nat.reduceEqDiff, Nat.reduceLeDiff, Nat.reduceMul, Nat.reduceLT, reduceIte, Int.reduceToNat, w64_id, cast_succ]
  repeat (first | (with_reducible first | refine SW.seq ?_ | refine SW.block ?_ | refine SW.rowC ?_ | refine SW.skip ?_ | refine SW.exit ?_ | intro _ | refine And.intro (by omega) ?_) | simp (config := { maxSteps := 1000000 }) (disch := (first | omega | (simp only [go_sem]; try omega))) only [go_sem, Nat.reduceAdd, Nat.reduceEqDiff, Nat.reduceLeDiff, Nat.reduceMul, Nat.reduceLT, reduceIte, Int.reduceToNat, w64_id, cast_succ])
  (first | refine SW.condD rfl (fun h => ?_) (fun h => ?_) | refine SW.condN rfl (fun h => ?_) (fun h => ?_) | refine SW.condNB rfl (fun h => ?_) (fun h => ?_) | refine SW.condB rfl (fun h => ?_) (fun h => ?_))
  · obtain ⟨s, post, rfl, hg, -⟩ := consOf (d := []) hp (by omega)
    have ha := hx s (by rw [hp]; simp)
    have hsl : s.length ≤ 32 := by
      rcases asc_len ha with rfl | h3
      · simp
      · omega
    have hpl := pairsB_len s
    have hpl2 : s.length * s.length ≤ 32 * 32 := Nat.mul_le_mul hsl hsl
    have hpm := pairsB_mem ha
    repeat (first | (with_reducible first | refine SW.seq ?_ | refine SW.block ?_ | refine SW.rowC ?_ | refine SW.skip ?_ | refine SW.exit ?_ | intro _ | refine And.intro (by omega) ?_) | simp (config := { maxSteps := 1000000 }) (disch := (first | omega | (simp only [go_sem]; try omega))) only [go_sem, Nat.reduceAdd, Nat.reduceEqDiff, Nat.reduceLeDiff, Nat.reduceMul, Nat.reduceLT, reduceIte, Int.reduceToNat, w64_id, cast_succ, hg])
    refine SW.loopE (fun E0 H0 q E' H' => ∃ (pr po : List Int) (dn : List (Int × Int)), s = pr ++ po ∧ q = po.length ∧ E' = aput E0 25 (I pr.length) ∧ H' = Hb ++ sqB n n Hb.length (cnt2 n (L ++ dn)) ∧ pairsB s = dn ++ pairsB po) s.length ⟨[], s, [], rfl, rfl, rfl, by simp, rfl⟩ ?_
    rintro q E' H' ⟨pr, po, dn, hs, rfl, rfl, rfl, hpb⟩
    have hdn : dn.length ≤ 1024 := by
      have := congrArg List.length hpb
      rw [List.length_append] at this; omega
    simp (config := { maxSteps := 1000000 }) (disch := (first | omega | (simp only [go_sem]; try omega))) only [go_sem, Nat.reduceAdd, Nat.reduceEqDiff, Nat.reduceLeDiff, Nat.reduceMul, Nat.reduceLT, reduceIte, Int.reduceToNat, w64_id, cast_succ]
    repeat (first | (with_reducible first | refine SW.seq ?_ | refine SW.block ?_ | refine SW.rowC ?_ | refine SW.skip ?_ | refine SW.exit ?_ | intro _ | refine And.intro (by omega) ?_) | simp (config := { maxSteps := 1000000 }) (disch := (first | omega | (simp only [go_sem]; try omega))) only [go_sem, Nat.reduceAdd, Nat.reduceEqDiff, Nat.reduceLeDiff, Nat.reduceMul, Nat.reduceLT, reduceIte, Int.reduceToNat, w64_id, cast_succ])
    (first | refine SW.condD rfl (fun h2 => ?_) (fun h2 => ?_) | refine SW.condN rfl (fun h2 => ?_) (fun h2 => ?_) | refine SW.condNB rfl (fun h2 => ?_) (fun h2 => ?_) | refine SW.condB rfl (fun h2 => ?_) (fun h2 => ?_))
    · obtain ⟨x, po, rfl, hgx, -⟩ := consOf (d := 0) hs (by omega)
      have hdr : (s.drop (pr.length + 1)).take (s.length - (pr.length + 1)) = po := by
        rw [hs, show pr ++ x :: po = (pr ++ [x]) ++ po by simp, show pr.length + 1 = (pr ++ [x]).length by simp, List.drop_left]
        exact List.take_of_length_le (by simp; omega)
      have hxn : 0 ≤ x ∧ x < n := by have := asc_mem ha x (by rw [hs]; simp); omega
      obtain ⟨a, rfl⟩ := Int.eq_ofNat_of_zero_le hxn.1
      have hpm2 : ∀ y ∈ po, 0 ≤ y ∧ y < n := fun y hy => by have := asc_mem ha y (by rw [hs]; simp [hy]); omega
      rw [pairsB] at hpb
      repeat (first | (with_reducible first | refine SW.seq ?_ | refine SW.block ?_ | refine SW.rowC ?_ | refine SW.skip ?_ | refine SW.exit ?_ | intro _ | refine And.intro (by omega) ?_) | simp (config := { maxSteps := 1000000 }) (disch := (first | omega | (simp only [go_sem]; try omega))) only [go_sem, Nat.reduceAdd, Nat.reduceEqDiff, Nat.reduceLeDiff, Nat.reduceMul, Nat.reduceLT, reduceIte, Int.reduceToNat, w64_id, cast_succ, hgx, Option.map_some, Option.map_none, hdr])
      rw [slc_ilS 1 _ s _ _ (by omega) (by omega) (by omega)]
      repeat (first | (with_reducible first | refine SW.seq ?_ | refine SW.block ?_ | refine SW.rowC ?_ | refine SW.skip ?_ | refine SW.exit ?_ | intro _ | refine And.intro (by omega) ?_) | simp (config := { maxSteps := 1000000 }) (disch := (first | omega | (simp only [go_sem]; try omega))) only [go_sem, Nat.reduceAdd, Nat.reduceEqDiff, Nat.reduceLeDiff, Nat.reduceMul, Nat.reduceLT, reduceIte, Int.reduceToNat, w64_id, cast_succ, hdr])
      refine SW.loopE (fun E0 H0 q E' H' => ∃ (p1 p2 : List Int), po = p1 ++ p2 ∧ q = p2.length ∧ E' = aput E0 35 (I p1.length) ∧ H' = Hb ++ sqB n n Hb.length (cnt2 n (L ++ (dn ++ p1.map fun y => ((a : Int), y))))) po.length ⟨[], po, rfl, rfl, rfl, by simp⟩ ?_
      rintro q E' H' ⟨p1, p2, hq, rfl, rfl, rfl⟩
      simp (config := { maxSteps := 1000000 }) (disch := (first | omega | (simp only [go_sem]; try omega))) only [go_sem, Nat.reduceAdd, Nat.reduceEqDiff, Nat.reduceLeDiff, Nat.reduceMul, Nat.reduceLT, reduceIte, Int.reduceToNat, w64_id, cast_succ]
      repeat (first | (with_reducible first | refine SW.seq ?_ | refine SW.block ?_ | refine SW.rowC ?_ | refine SW.skip ?_ | refine SW.exit ?_ | intro _ | refine And.intro (by omega) ?_) | simp (config := { maxSteps := 1000000 }) (disch := (first | omega | (simp only [go_sem]; try omega))) only [go_sem, Nat.reduceAdd, Nat.reduceEqDiff, Nat.reduceLeDiff, Nat.reduceMul, Nat.reduceLT, reduceIte, Int.reduceToNat, w64_id, cast_succ])
      (first | refine SW.condD rfl (fun h3 => ?_) (fun h3 => ?_) | refine SW.condN rfl (fun h3 => ?_) (fun h3 => ?_) | refine SW.condNB rfl (fun h3 => ?_) (fun h3 => ?_) | refine SW.condB rfl (fun h3 => ?_) (fun h3 => ?_))
      · obtain ⟨y, p2, rfl, hgy, -⟩ := consOf (d := 0) hq (by omega)
        obtain ⟨b, rfl⟩ := Int.eq_ofNat_of_zero_le (hpm2 y (by rw [hq]; simp)).1
        have hbn : b < n := by have := (hpm2 (b : Int) (by rw [hq]; simp)).2; omega
        have han : a < n := by omega
        have hset := cnt2_set n (L ++ (dn ++ p1.map fun y => ((a : Int), y))) a b han hbn
        have hlen3 := cnt2_length n (L ++ (dn ++ p1.map fun y => ((a : Int), y)))
        have hrow := cnt2_row n (L ++ (dn ++ p1.map fun y => ((a : Int), y))) han
        have hcnt : (L ++ (dn ++ p1.map fun y => ((a : Int), y))).count ((a : Int), (b : Int)) ≤ 1000000 := by
          refine Nat.le_trans List.count_le_length ?_
          have : p1.length ≤ 1024 := by
            have := congrArg List.length hq
            simp at this
            have := congrArg List.length hs
            simp at this; omega
          simp; omega
        have e3 : L ++ (dn ++ (p1 ++ [(b : Int)]).map (fun y => ((a : Int), y))) = (L ++ (dn ++ p1.map fun y => ((a : Int), y))) ++ [((a : Int), (b : Int))] := by simp
        generalize hC : (L ++ (dn ++ p1.map fun y => ((a : Int), y))) = C at *
        have hrl : (tab n fun y => (C.count ((a : Int), (y : Int)) : Int)).length = n := tab_length _ _
        have hrg := tab_getD (fun y => (C.count ((a : Int), (y : Int)) : Int)) hbn
        rw [hrow] at hset
        generalize hR : (tab n fun y => (C.count ((a : Int), (y : Int)) : Int)) = row at *
        generalize hS : cnt2 n C = S at *
        have f1 := sqB_cell (w := n) (k := Hb.length) (by omega) hrow
        have f2 := sqB_get (v := n) (w := n) (k := Hb.length) (by omega) hrow
        have f3 := fun c => sqB_set (v := n) (w := n) (k := Hb.length) (ys := row.set b c) (by omega) hrow (by simp)
        rw [hrl] at f1
        have f4 : (row.map I).take n = row.map I := List.take_of_length_le (by simp [hrl])
        repeat (first | (with_reducible first | refine SW.seq ?_ | refine SW.block ?_ | refine SW.rowC ?_ | refine SW.skip ?_ | refine SW.exit ?_ | intro _ | refine And.intro (by omega) ?_) | simp (config := { maxSteps := 1000000 }) (disch := (first | omega | (simp only [go_sem]; try omega))) only [go_sem, Nat.reduceAdd, Nat.reduceEqDiff, Nat.reduceLeDiff, Nat.reduceMul, Nat.reduceLT, reduceIte, Int.reduceToNat, w64_id, cast_succ, hgy, sqB_0, nmsV_take, f1, f2, f3, f4, hrg])
        refine SLoop.next p2.length (by simp) ⟨p1 ++ [(b : Int)], p2, by simp [hq], rfl, ?_, ?_⟩
        · simp [go_sem]
        · rw [e3, ← hset]
      · obtain ⟨rfl, rfl⟩ := nilOf hq (by omega)
        repeat (first | (with_reducible first | refine SW.seq ?_ | refine SW.block ?_ | refine SW.rowC ?_ | refine SW.skip ?_ | refine SW.exit ?_ | intro _ | refine And.intro (by omega) ?_) | simp (config := { maxSteps := 1000000 }) (disch := (first | omega | (simp only [go_sem]; try omega))) only [go_sem, Nat.reduceAdd, Nat.reduceEqDiff, Nat.reduceLeDiff, Nat.reduceMul, Nat.reduceLT, reduceIte, Int.reduceToNat, w64_id, cast_succ])
        refine SLoop.next p1.length (by simp) ⟨pr ++ [(a : Int)], p1, dn ++ p1.map (fun y => ((a : Int), y)), by simp [hs], rfl, ?_, rfl, ?_⟩
        · simp [go_sem]
        · rw [hpb, List.append_assoc]
    · obtain ⟨rfl, rfl⟩ := nilOf hs (by omega)
      rw [pairsB, List.append_nil] at hpb
      subst hpb
      repeat (first | (with_reducible first | refine SW.seq ?_ | refine SW.block ?_ | refine SW.rowC ?_ | refine SW.skip ?_ | refine SW.exit ?_ | intro _ | refine And.intro (by omega) ?_) | simp (config := { maxSteps := 1000000 }) (disch := (first | omega | (simp only [go_sem]; try omega))) only [go_sem, Nat.reduceAdd, Nat.reduceEqDiff, Nat.reduceLeDiff, Nat.reduceMul, Nat.reduceLT, reduceIte, Int.reduceToNat, w64_id, cast_succ])
      refine SLoop.next post.length (by simp) ⟨pre ++ [pr], post, by simp [hp], rfl, ?_, ?_⟩
      · simp [go_sem]
      · rw [List.flatMap_append, hL0]; simp
  · obtain ⟨rfl, rfl⟩ := nilOf hp (by omega)
    have hlen3 := cnt2_length n L
    have hfin := cnt2_pairs n pre hx
    rw [hL0] at hfin
    repeat (first | (with_reducible first | refine SW.seq ?_ | refine SW.block ?_ | refine SW.rowC ?_ | refine SW.skip ?_ | refine SW.exit ?_ | intro _ | refine And.intro (by omega) ?_) | simp (config := { maxSteps := 1000000 }) (disch := (first | omega | (simp only [go_sem]; try omega))) only [go_sem, Nat.reduceAdd, Nat.reduceEqDiff, Nat.reduceLeDiff, Nat.reduceMul, Nat.reduceLT, reduceIte, Int.reduceToNat, w64_id, cast_succ])
    have hrl : ∀ r ∈ cnt2 n L, r.length = n := by
      intro r hr
      obtain ⟨x, _, rfl⟩ := List.mem_map.1 hr
      exact tab_length _ _
    generalize hS : cnt2 n L = S at *
    repeat (first | (with_reducible first | refine SW.seq ?_ | refine SW.block ?_ | refine SW.rowC ?_ | refine SW.skip ?_ | refine SW.exit ?_ | intro _ | refine And.intro (by omega) ?_) | simp (config := { maxSteps := 1000000 }) (disch := (first | omega | (simp only [go_sem]; try omega))) only [go_sem, Nat.reduceAdd, Nat.reduceEqDiff, Nat.reduceLeDiff, Nat.reduceMul, Nat.reduceLT, reduceIte, Int.reduceToNat, w64_id, cast_succ, sqB_0, nmsV_take])
    refine SW.froz (E' := [(10, nilS), (51, ilSS S), (52, I n), (53, I 0)]) hBb (by omega) (.cons _ (.old _ (.lit _)) (.cons _ ?_ (.cons _ (ren_I _) (.cons _ (ren_I _) .nil)))) ?_
    · have := ren_sq (Hb := Hb) (k := Hb.length) (v := n) (w := n) (js := []) (xss := S) (ext := []) (Nat.le_refl _) (by simp)
      rw [List.append_nil, hlen3] at this
      exact this
    refine SW.ghost (Gh.name 10 2 1 rfl) ?_
    simp (config := { maxSteps := 1000000 }) (disch := (first | omega | (simp only [go_sem]; try omega))) only [go_sem, Nat.reduceAdd, Nat.reduceEqDiff, Nat.reduceLeDiff, Nat.reduceMul, Nat.reduceLT, reduceIte, Int.reduceToNat, w64_id, cast_succ]
    refine SW.loopE (fun E0 H0 q E' H' => ∃ (p1 p2 : List (List Int)) (c : List Int) (ver : Nat), S = p1 ++ p2 ∧ q = p2.length ∧ E' = aput (aput E0 53 (I p1.length)) 10 (.nm Hb.length ver 0 c.length) ∧ H' = Hb ++ [⟨ver, 2, 1, c.map I⟩] ∧ c = (List.range p1.length).flatMap fun a => (S.getD a []).drop (a + 1)) S.length ⟨[], S, [], 0, rfl, rfl, rfl, rfl, rfl⟩ ?_
    rintro q E' H' ⟨p1, p2, c, ver, hs, rfl, rfl, rfl, hc⟩
    have hcl : c.length ≤ 1024 := by
      have h1 := flenA (List.range p1.length) (fun a => (S.getD a []).drop (a + 1)) 32 (fun x hx => by
        rw [List.mem_range] at hx
        have hxl : x < S.length := by rw [hs]; simp; omega
        have := hrl (S.getD x []) (by simp [List.getElem?_eq_getElem hxl])
        simp only [List.length_drop]; omega)
      rw [← hc, List.length_range] at h1
      have : p1.length ≤ n := by rw [← hlen3, hs]; simp
      omega
    simp (config := { maxSteps := 1000000 }) (disch := (first | omega | (simp only [go_sem]; try omega))) only [go_sem, Nat.reduceAdd, Nat.reduceEqDiff, Nat.reduceLeDiff, Nat.reduceMul, Nat.reduceLT, reduceIte, Int.reduceToNat, w64_id, cast_succ]
    repeat (first | (with_reducible first | refine SW.seq ?_ | refine SW.block ?_ | refine SW.rowC ?_ | refine SW.skip ?_ | refine SW.exit ?_ | intro _ | refine And.intro (by omega) ?_) | simp (config := { maxSteps := 1000000 }) (disch := (first | omega | (simp only [go_sem]; try omega))) only [go_sem, Nat.reduceAdd, Nat.reduceEqDiff, Nat.reduceLeDiff, Nat.reduceMul, Nat.reduceLT, reduceIte, Int.reduceToNat, w64_id, cast_succ])
    (first | refine SW.condD rfl (fun h2 => ?_) (fun h2 => ?_) | refine SW.condN rfl (fun h2 => ?_) (fun h2 => ?_) | refine SW.condNB rfl (fun h2 => ?_) (fun h2 => ?_) | refine SW.condB rfl (fun h2 => ?_) (fun h2 => ?_))
    · have h3 : p1.length < S.length := by omega
      obtain ⟨r, p2, rfl, hgr, -⟩ := consOf (d := []) hs h3
      have hr : r.length = n := hrl r (by rw [hs]; simp)
      have hdr : (r.drop (p1.length + 1)).take (r.length - (p1.length + 1)) = r.drop (p1.length + 1) := List.take_of_length_le (by simp)
      repeat (first | (with_reducible first | refine SW.seq ?_ | refine SW.block ?_ | refine SW.rowC ?_ | refine SW.skip ?_ | refine SW.exit ?_ | intro _ | refine And.intro (by omega) ?_) | simp (config := { maxSteps := 1000000 }) (disch := (first | omega | (simp only [go_sem]; try omega))) only [go_sem, Nat.reduceAdd, Nat.reduceEqDiff, Nat.reduceLeDiff, Nat.reduceMul, Nat.reduceLT, reduceIte, Int.reduceToNat, w64_id, cast_succ, hgr, Option.map_some, Option.map_none])
      rw [slc_ilS 1 _ r _ _ (by omega) (by omega) (by omega)]
      have hct : (c.map I).take c.length = c.map I := takeI c
      have hdl : (r.drop (p1.length + 1)).length ≤ 32 := by simp; omega
      generalize hD : r.drop (p1.length + 1) = D at *
      repeat (first | (with_reducible first | refine SW.seq ?_ | refine SW.block ?_ | refine SW.rowC ?_ | refine SW.skip ?_ | refine SW.exit ?_ | intro _ | refine And.intro (by omega) ?_) | simp (config := { maxSteps := 1000000 }) (disch := (first | omega | (simp only [go_sem]; try omega))) only [go_sem, Nat.reduceAdd, Nat.reduceEqDiff, Nat.reduceLeDiff, Nat.reduceMul, Nat.reduceLT, reduceIte, Int.reduceToNat, w64_id, cast_succ, hD, hdr])
      refine SLoop.next p2.length (by simp) ⟨p1 ++ [r], p2, c ++ D, ver + 1, by simp [hs], rfl, ?_, rfl, ?_⟩
      · simp [go_sem]
      · rw [List.length_append, List.length_singleton, List.range_succ, List.flatMap_append, ← hc]
        simp only [List.flatMap_cons, List.flatMap_nil, List.append_nil, hgr, hD]
    · have h3 : ¬ p1.length < S.length := by omega
      obtain ⟨rfl, rfl⟩ := nilOf hs h3
      rw [hlen3, hfin] at hc
      subst hc
      repeat (first | (with_reducible first | refine SW.seq ?_ | refine SW.block ?_ | refine SW.rowC ?_ | refine SW.skip ?_ | refine SW.exit ?_ | intro _ | refine And.intro (by omega) ?_) | simp (config := { maxSteps := 1000000 }) (disch := (first | omega | (simp only [go_sem]; try omega))) only [go_sem, Nat.reduceAdd, Nat.reduceEqDiff, Nat.reduceLeDiff, Nat.reduceMul, Nat.reduceLT, reduceIte, Int.reduceToNat, w64_id, cast_succ])
      refine SW.ret ?_; (try simp only [go_sem]); (first | refine FunPost.one ?_ | refine FunPost.two ?_ | refine FunPost.three ?_); (try simp (config := { maxSteps := 1000000 }) (disch := (first | omega | (simp only [go_sem]; try omega))) only [go_sem, Nat.reduceAdd, Nat.reduceEqDiff, Nat.reduceLeDiff, Nat.reduceMul, Nat.reduceLT, reduceIte, Int.reduceToNat, w64_id, cast_succ])
      rw [← hb, List.append_assoc]
      have h5 := @GR.oneS H ([(⟨0, tyD, 1, [I n, ilSS pre]⟩ : Blk)] ++ [⟨ver, 2, 1, (pairsL n pre).map I⟩]) (H.length + 1) ver (pairsL n pre) (by omega) (by simp)
      simpa using h5

theorem l00Same_fn (xs ys : List Int) : PFn Try.prog f_spec_l00Same [ilS xs, ilS ys] (Bv (decide (xs = ys))) := fun H => eqS_of s_spec_l00Same H _ _ xs ys (rd_ilS _ _) (rd_ilS _ _)

/-- The pairs before the point a. -/
def pairsTo (n : Nat) (xss : List (List Int)) (a : Nat) : List Int := (List.range a).flatMap fun a => (tab n fun b => pcount xss a b).drop (a + 1)
theorem pairsTo_succ (n : Nat) (xss : List (List Int)) (a : Nat) : pairsTo n xss (a + 1) = pairsTo n xss a ++ (tab n fun b => pcount xss a b).drop (a + 1) := by simp [pairsTo, List.range_succ]
theorem pairsTo_len (n : Nat) (xss : List (List Int)) (a : Nat) : (pairsTo n xss a).length ≤ a * n := by
  have := flenA (List.range a) (fun a => (tab n fun b => pcount xss a b).drop (a + 1)) n (fun x _ => by simp [tab_length])
  rwa [List.length_range] at this
theorem dropTake_succ (n a b : Nat) (f : Nat → Int) (h1 : a ≤ b) (h2 : b < n) : ((tab n f).drop a).take (b + 1 - a) = ((tab n f).drop a).take (b - a) ++ [f b] := by
  rw [show b + 1 - a = (b - a) + 1 by omega, List.take_add_one, List.getElem?_drop, show a + (b - a) = b by omega]
  simp [tab, h2]

theorem l10Pairs_new (n : Nat) (xss : List (List Int)) (hn : n ≤ 32) (hl : xss.length ≤ 128) (H : List Blk) (p : Nat) (hp : H[p]? = some ⟨0, tyD, 1, [I n, ilSS xss]⟩) :
    ACalls Try.prog f_spec_l10Pairs [.pc p 0 0] H (fun r H' => r = .nm H.length 0 0 (pairsL n xss).length ∧ H' = H ++ [⟨0, 2, 1, (pairsL n xss).map I⟩]) := by
  have ldw : ∀ ext off, acell1 (H ++ ext) (.pc p 0 off) = [I n, ilSS xss][off]? := fun ext off => pc_ld (get_appU hp ext)
  have alw : ∀ ext off, alive (H ++ ext) (.pc p 0 off) = True := fun ext off => pc_alive (get_appU hp ext)
  have hpl := (List.getElem?_eq_some_iff.1 hp).1
  refine ACalls.introB s_spec_l10Pairs (by simp) ?_; intro hB hA; unfold c_spec_l10Pairs; simp (config := { maxSteps := 1000000 }) (disch := (first | omega | (simp only [go_sem]; try omega))) only [go_sem, Nat.reduceAdd, Nat.reduceEqDiff, Nat.reduceLeDiff, Nat.reduceMul, Nat.reduceLT, reduceIte, Int.reduceToNat, w64_id, cast_succ]
  repeat (first | (with_reducible first | refine SW.seq ?_ | refine SW.block ?_ | refine SW.rowC ?_ | refine SW.skip ?_ | refine SW.exit ?_ | intro _ | refine And.intro (by omega) ?_) | simp (config := { maxSteps := 1000000 }) (disch := (first | omega | (simp only [go_sem]; try omega))) only [go_sem, Nat.reduceAdd, Nat.reduceEqDiff, Nat.reduceLeDiff, Nat.reduceMul, Nat.reduceLT, reduceIte, Int.reduceToNat, w64_id, cast_succ])
  refine SW.loopE (fun E0 H0 q E' H' => ∃ (a ver : Nat), a ≤ n ∧ q = n - a ∧ E' = aput (aput E0 4 (I a)) 3 (.nm H.length ver 0 (pairsTo n xss a).length) ∧ H' = H ++ [⟨ver, 2, 1, (pairsTo n xss a).map I⟩]) n ⟨0, 0, by omega, by omega, rfl, rfl⟩ ?_
  rintro q E' H' ⟨a, ver, ha, rfl, rfl, rfl⟩
  have hpt := pairsTo_len n xss a
  have hps := pairsTo_succ n xss a
  have hmul : a * n ≤ 32 * 32 := Nat.mul_le_mul (by omega) hn
  generalize hL : pairsTo n xss a = L at *
  simp (config := { maxSteps := 1000000 }) (disch := (first | omega | (simp only [go_sem]; try omega))) only [go_sem, Nat.reduceAdd, Nat.reduceEqDiff, Nat.reduceLeDiff, Nat.reduceMul, Nat.reduceLT, reduceIte, Int.reduceToNat, w64_id, cast_succ]
  repeat (first | (with_reducible first | refine SW.seq ?_ | refine SW.block ?_ | refine SW.rowC ?_ | refine SW.skip ?_ | refine SW.exit ?_ | intro _ | refine And.intro (by omega) ?_) | simp (config := { maxSteps := 1000000 }) (disch := (first | omega | (simp only [go_sem]; try omega))) only [go_sem, Nat.reduceAdd, Nat.reduceEqDiff, Nat.reduceLeDiff, Nat.reduceMul, Nat.reduceLT, reduceIte, Int.reduceToNat, w64_id, cast_succ, ldw, alw])
  (first | refine SW.condD rfl (fun h => ?_) (fun h => ?_) | refine SW.condN rfl (fun h => ?_) (fun h => ?_) | refine SW.condNB rfl (fun h => ?_) (fun h => ?_) | refine SW.condB rfl (fun h => ?_) (fun h => ?_))
  · repeat (first | (with_reducible first | refine SW.seq ?_ | refine SW.block ?_ | refine SW.rowC ?_ | refine SW.skip ?_ | refine SW.exit ?_ | intro _ | refine And.intro (by omega) ?_) | simp (config := { maxSteps := 1000000 }) (disch := (first | omega | (simp only [go_sem]; try omega))) only [go_sem, Nat.reduceAdd, Nat.reduceEqDiff, Nat.reduceLeDiff, Nat.reduceMul, Nat.reduceLT, reduceIte, Int.reduceToNat, w64_id, cast_succ])
    generalize hF : tab n (fun b => pcount xss a b) = T at *
    have hTl : T.length = n := by rw [← hF, tab_length]
    refine SW.loopE (fun E0 H0 q E' H' => ∃ (b ver : Nat), a + 1 ≤ b ∧ b ≤ n ∧ q = n - b ∧ E' = aput (aput E0 5 (I b)) 3 (.nm H.length ver 0 (L ++ (T.drop (a + 1)).take (b - (a + 1))).length) ∧ H' = H ++ [⟨ver, 2, 1, (L ++ (T.drop (a + 1)).take (b - (a + 1))).map I⟩]) (n - (a + 1)) ⟨a + 1, ver, by omega, by omega, by omega, by simp [go_sem], by simp⟩ ?_
    rintro q E' H' ⟨b, ver, hb1, hb2, rfl, rfl, rfl⟩
    have hdt := fun h => dropTake_succ n (a + 1) b (fun b => pcount xss a b) hb1 h
    rw [hF] at hdt
    have hC : (L ++ (T.drop (a + 1)).take (b - (a + 1))).length ≤ 2000 := by simp; omega
    generalize hC0 : (T.drop (a + 1)).take (b - (a + 1)) = C at *
    generalize hD : L ++ C = D at *
    simp (config := { maxSteps := 1000000 }) (disch := (first | omega | (simp only [go_sem]; try omega))) only [go_sem, Nat.reduceAdd, Nat.reduceEqDiff, Nat.reduceLeDiff, Nat.reduceMul, Nat.reduceLT, reduceIte, Int.reduceToNat, w64_id, cast_succ]
    repeat (first | (with_reducible first | refine SW.seq ?_ | refine SW.block ?_ | refine SW.rowC ?_ | refine SW.skip ?_ | refine SW.exit ?_ | intro _ | refine And.intro (by omega) ?_) | simp (config := { maxSteps := 1000000 }) (disch := (first | omega | (simp only [go_sem]; try omega))) only [go_sem, Nat.reduceAdd, Nat.reduceEqDiff, Nat.reduceLeDiff, Nat.reduceMul, Nat.reduceLT, reduceIte, Int.reduceToNat, w64_id, cast_succ, ldw, alw])
    (first | refine SW.condD rfl (fun h2 => ?_) (fun h2 => ?_) | refine SW.condN rfl (fun h2 => ?_) (fun h2 => ?_) | refine SW.condNB rfl (fun h2 => ?_) (fun h2 => ?_) | refine SW.condB rfl (fun h2 => ?_) (fun h2 => ?_))
    · repeat (first | (with_reducible first | refine SW.seq ?_ | refine SW.block ?_ | refine SW.rowC ?_ | refine SW.skip ?_ | refine SW.exit ?_ | intro _ | refine And.intro (by omega) ?_) | simp (config := { maxSteps := 1000000 }) (disch := (first | omega | (simp only [go_sem]; try omega))) only [go_sem, Nat.reduceAdd, Nat.reduceEqDiff, Nat.reduceLeDiff, Nat.reduceMul, Nat.reduceLT, reduceIte, Int.reduceToNat, w64_id, cast_succ])
      refine SW.loopE (fun E0 H0 q E' H' => ∃ (pre post : List (List Int)), xss = pre ++ post ∧ q = post.length ∧ E' = aput (aput E0 7 (I pre.length)) 6 (I (pcount pre a b)) ∧ H' = H0) xss.length ⟨[], xss, rfl, rfl, rfl, rfl⟩ ?_
      rintro q E' H' ⟨pre, post, hq, rfl, rfl, rfl⟩
      have hpc : 0 ≤ pcount pre a b ∧ pcount pre a b ≤ 128 := by
        have h1 : pre.length ≤ 128 := by rw [hq] at hl; simp at hl; omega
        have h2 := List.countP_le_length (p := fun s : List Int => s.contains (a : Int) && s.contains (b : Int)) (l := pre)
        unfold pcount; omega
      have hsn : ∀ s : List Int, pcount (pre ++ [s]) a b = pcount pre a b + (if s.contains (a : Int) && s.contains (b : Int) then 1 else 0) := by
        intro s; simp only [pcount, List.countP_append, List.countP_singleton]; split <;> simp
      generalize hcc : pcount pre a b = c at *
      simp (config := { maxSteps := 1000000 }) (disch := (first | omega | (simp only [go_sem]; try omega))) only [go_sem, Nat.reduceAdd, Nat.reduceEqDiff, Nat.reduceLeDiff, Nat.reduceMul, Nat.reduceLT, reduceIte, Int.reduceToNat, w64_id, cast_succ]
      repeat (first | (with_reducible first | refine SW.seq ?_ | refine SW.block ?_ | refine SW.rowC ?_ | refine SW.skip ?_ | refine SW.exit ?_ | intro _ | refine And.intro (by omega) ?_) | simp (config := { maxSteps := 1000000 }) (disch := (first | omega | (simp only [go_sem]; try omega))) only [go_sem, Nat.reduceAdd, Nat.reduceEqDiff, Nat.reduceLeDiff, Nat.reduceMul, Nat.reduceLT, reduceIte, Int.reduceToNat, w64_id, cast_succ, ldw, alw])
      (first | refine SW.condD rfl (fun h3 => ?_) (fun h3 => ?_) | refine SW.condN rfl (fun h3 => ?_) (fun h3 => ?_) | refine SW.condNB rfl (fun h3 => ?_) (fun h3 => ?_) | refine SW.condB rfl (fun h3 => ?_) (fun h3 => ?_))
      · obtain ⟨s, post, rfl, hg, -⟩ := consOf (d := []) hq (by omega)
        repeat (first | (with_reducible first | refine SW.seq ?_ | refine SW.block ?_ | refine SW.rowC ?_ | refine SW.skip ?_ | refine SW.exit ?_ | refine PFn.use (l00Has_fn _ _) ?_ | refine PFn.useq (l00Has_fn _ _) ?_ | intro _ | refine And.intro (by omega) ?_) | simp (config := { maxSteps := 1000000 }) (disch := (first | omega | (simp only [go_sem]; try omega))) only [go_sem, Nat.reduceAdd, Nat.reduceEqDiff, Nat.reduceLeDiff, Nat.reduceMul, Nat.reduceLT, reduceIte, Int.reduceToNat, w64_id, cast_succ, ldw, alw, hg])
        (first | refine GSplit.df (fun h4 => ?_) (fun h4 => ?_) | refine GSplit.dt (fun h4 => ?_) (fun h4 => ?_) | refine GSplit.ndf (fun h4 => ?_) (fun h4 => ?_) | refine GSplit.ndt (fun h4 => ?_) (fun h4 => ?_) | refine GSplit.nbf (fun h4 => ?_) (fun h4 => ?_) | refine GSplit.nbt (fun h4 => ?_) (fun h4 => ?_) | refine GSplit.bf (fun h4 => ?_) (fun h4 => ?_) | refine GSplit.bt (fun h4 => ?_) (fun h4 => ?_))
        · repeat (first | (with_reducible first | refine SW.seq ?_ | refine SW.block ?_ | refine SW.rowC ?_ | refine SW.skip ?_ | refine SW.exit ?_ | refine PFn.use (l00Has_fn _ _) ?_ | refine PFn.useq (l00Has_fn _ _) ?_ | intro _ | refine And.intro (by omega) ?_) | simp (config := { maxSteps := 1000000 }) (disch := (first | omega | (simp only [go_sem]; try omega))) only [go_sem, Nat.reduceAdd, Nat.reduceEqDiff, Nat.reduceLeDiff, Nat.reduceMul, Nat.reduceLT, reduceIte, Int.reduceToNat, w64_id, cast_succ, ldw, alw, hg])
          (first | refine SW.condD rfl (fun h5 => ?_) (fun h5 => ?_) | refine SW.condN rfl (fun h5 => ?_) (fun h5 => ?_) | refine SW.condNB rfl (fun h5 => ?_) (fun h5 => ?_) | refine SW.condB rfl (fun h5 => ?_) (fun h5 => ?_))
          · repeat (first | (with_reducible first | refine SW.seq ?_ | refine SW.block ?_ | refine SW.rowC ?_ | refine SW.skip ?_ | refine SW.exit ?_ | intro _ | refine And.intro (by omega) ?_) | simp (config := { maxSteps := 1000000 }) (disch := (first | omega | (simp only [go_sem]; try omega))) only [go_sem, Nat.reduceAdd, Nat.reduceEqDiff, Nat.reduceLeDiff, Nat.reduceMul, Nat.reduceLT, reduceIte, Int.reduceToNat, w64_id, cast_succ])
            refine SLoop.next post.length (by simp) ⟨pre ++ [s], post, by simp [hq], rfl, ?_, rfl⟩
            rw [hsn, h4, h5]; simp [go_sem]
          · repeat (first | (with_reducible first | refine SW.seq ?_ | refine SW.block ?_ | refine SW.rowC ?_ | refine SW.skip ?_ | refine SW.exit ?_ | intro _ | refine And.intro (by omega) ?_) | simp (config := { maxSteps := 1000000 }) (disch := (first | omega | (simp only [go_sem]; try omega))) only [go_sem, Nat.reduceAdd, Nat.reduceEqDiff, Nat.reduceLeDiff, Nat.reduceMul, Nat.reduceLT, reduceIte, Int.reduceToNat, w64_id, cast_succ])
            refine SLoop.next post.length (by simp) ⟨pre ++ [s], post, by simp [hq], rfl, ?_, rfl⟩
            rw [hsn, h4, h5]; simp [go_sem]
        · repeat (first | (with_reducible first | refine SW.seq ?_ | refine SW.block ?_ | refine SW.rowC ?_ | refine SW.skip ?_ | refine SW.exit ?_ | intro _ | refine And.intro (by omega) ?_) | simp (config := { maxSteps := 1000000 }) (disch := (first | omega | (simp only [go_sem]; try omega))) only [go_sem, Nat.reduceAdd, Nat.reduceEqDiff, Nat.reduceLeDiff, Nat.reduceMul, Nat.reduceLT, reduceIte, Int.reduceToNat, w64_id, cast_succ])
          (first | refine SW.condD rfl (fun h5 => ?_) (fun h5 => ?_) | refine SW.condN rfl (fun h5 => ?_) (fun h5 => ?_) | refine SW.condNB rfl (fun h5 => ?_) (fun h5 => ?_) | refine SW.condB rfl (fun h5 => ?_) (fun h5 => ?_))
          · cases h5
          repeat (first | (with_reducible first | refine SW.seq ?_ | refine SW.block ?_ | refine SW.rowC ?_ | refine SW.skip ?_ | refine SW.exit ?_ | intro _ | refine And.intro (by omega) ?_) | simp (config := { maxSteps := 1000000 }) (disch := (first | omega | (simp only [go_sem]; try omega))) only [go_sem, Nat.reduceAdd, Nat.reduceEqDiff, Nat.reduceLeDiff, Nat.reduceMul, Nat.reduceLT, reduceIte, Int.reduceToNat, w64_id, cast_succ])
          refine SLoop.next post.length (by simp) ⟨pre ++ [s], post, by simp [hq], rfl, ?_, rfl⟩
          rw [hsn, h4]; simp [go_sem]
      · obtain ⟨rfl, rfl⟩ := nilOf hq (by omega)
        have hbn : b < n := by omega
        repeat (first | (with_reducible first | refine SW.seq ?_ | refine SW.block ?_ | refine SW.rowC ?_ | refine SW.skip ?_ | refine SW.exit ?_ | intro _ | refine And.intro (by omega) ?_) | simp (config := { maxSteps := 1000000 }) (disch := (first | omega | (simp only [go_sem]; try omega))) only [go_sem, Nat.reduceAdd, Nat.reduceEqDiff, Nat.reduceLeDiff, Nat.reduceMul, Nat.reduceLT, reduceIte, Int.reduceToNat, w64_id, cast_succ])
        have hdb : L ++ (T.drop (a + 1)).take (b + 1 - (a + 1)) = D ++ [pcount pre a b] := by rw [hdt hbn, ← List.append_assoc, hD]
        refine SLoop.nextT 1 (n - (b + 1)) hB (by omega) (by omega) (by simp) ?_ ?_ ⟨b + 1, ver + 1, by omega, by omega, rfl, ?_, ?_⟩
        · (simp only [go_sem, Nat.reduceAdd, Nat.reduceEqDiff, reduceIte, go_sem, and_self, and_true, true_and, implies_true, List.take_succ_cons, List.take_zero, and_true, true_and]; try omega)
        · (simp only [go_sem, Nat.reduceAdd, Nat.reduceEqDiff, reduceIte, go_sem, and_self, and_true, true_and, implies_true, List.take_succ_cons, List.take_zero, and_true, true_and]; try omega)
        · have hdl := congrArg List.length hdb
          simp only [List.length_append, List.length_singleton] at hdl
          rw [hdl]; simp [go_sem]
        · rw [hdb, hcc]; simp
    · have : b = n := by omega
      subst this
      have e : C = T.drop (a + 1) := by rw [← hC0]; exact List.take_of_length_le (by simp [hTl])
      rw [← e, hD] at hps
      repeat (first | (with_reducible first | refine SW.seq ?_ | refine SW.block ?_ | refine SW.rowC ?_ | refine SW.skip ?_ | refine SW.exit ?_ | intro _ | refine And.intro (by omega) ?_) | simp (config := { maxSteps := 1000000 }) (disch := (first | omega | (simp only [go_sem]; try omega))) only [go_sem, Nat.reduceAdd, Nat.reduceEqDiff, Nat.reduceLeDiff, Nat.reduceMul, Nat.reduceLT, reduceIte, Int.reduceToNat, w64_id, cast_succ])
      refine SLoop.next (b - (a + 1)) (by omega) ⟨a + 1, ver, by omega, rfl, ?_, ?_⟩
      · rw [hps]; simp [go_sem]
      · rw [hps]
  · have : a = n := by omega
    subst this
    repeat (first | (with_reducible first | refine SW.seq ?_ | refine SW.block ?_ | refine SW.rowC ?_ | refine SW.skip ?_ | refine SW.exit ?_ | intro _ | refine And.intro (by omega) ?_) | simp (config := { maxSteps := 1000000 }) (disch := (first | omega | (simp only [go_sem]; try omega))) only [go_sem, Nat.reduceAdd, Nat.reduceEqDiff, Nat.reduceLeDiff, Nat.reduceMul, Nat.reduceLT, reduceIte, Int.reduceToNat, w64_id, cast_succ])
    refine SW.ret ?_; (try simp only [go_sem]); (first | refine FunPost.one ?_ | refine FunPost.two ?_ | refine FunPost.three ?_); (try simp (config := { maxSteps := 1000000 }) (disch := (first | omega | (simp only [go_sem]; try omega))) only [go_sem, Nat.reduceAdd, Nat.reduceEqDiff, Nat.reduceLeDiff, Nat.reduceMul, Nat.reduceLT, reduceIte, Int.reduceToNat, w64_id, cast_succ])
    have e : pairsL a xss = L := hL
    rw [e]
    exact GR.oneS (Nat.le_refl _) (by simp)

theorem pairs_c1_ok (H : List Blk) (p ty : Nat) (c lam : Int) (hp : H[p]? = some ⟨0, ty, 1, [I lam]⟩) : ACalls Try.prog f_impl_isDesignPacking_c1 [I c, .pc p 0 0] H (fun r H' => r = Bv (decide (lam < c)) ∧ H' = H) := by
  refine ACalls.introB s_impl_isDesignPacking_c1 (by simp) ?_; intro hB hA; unfold c_impl_isDesignPacking_c1; simp (config := { maxSteps := 1000000 }) (disch := (first | omega | (simp only [go_sem]; try omega))) only [go_sem, Nat.reduceAdd, Nat.reduceEqDiff, Nat.reduceLeDiff, Nat.reduceMul, Nat.reduceLT, reduceIte, Int.reduceToNat, w64_id, cast_succ]
  repeat (first | (with_reducible first | refine SW.seq ?_ | refine SW.block ?_ | refine SW.rowC ?_ | refine SW.skip ?_ | refine SW.exit ?_ | intro _ | refine And.intro (by omega) ?_) | simp (config := { maxSteps := 1000000 }) (disch := (first | omega | (simp only [go_sem]; try omega))) only [go_sem, Nat.reduceAdd, Nat.reduceEqDiff, Nat.reduceLeDiff, Nat.reduceMul, Nat.reduceLT, reduceIte, Int.reduceToNat, w64_id, cast_succ, pc_ld hp, pc_alive hp])
  refine SW.ret ?_; (try simp only [go_sem]); (first | refine FunPost.one ?_ | refine FunPost.two ?_ | refine FunPost.three ?_); (try simp (config := { maxSteps := 1000000 }) (disch := (first | omega | (simp only [go_sem]; try omega))) only [go_sem, Nat.reduceAdd, Nat.reduceEqDiff, Nat.reduceLeDiff, Nat.reduceMul, Nat.reduceLT, reduceIte, Int.reduceToNat, w64_id, cast_succ]); (first | (with_reducible refine GR.drop ?_ ?_; (simp only [go_sem, and_self, and_true, true_and, implies_true, List.take_succ_cons, List.take_zero])) | refine GR.of ?_); refine ⟨?_, rfl⟩; (try with_reducible rfl)
def packB (n : Nat) (xss : List (List Int)) (k lam : Int) : Bool := xss.all (fun b => decide ((b.length : Int) = k)) && adjB (fun x y => !decide (x = y)) xss && decide (0 < lam) && (pairsL n xss).all (fun c => !decide (lam < c))
theorem slicesEqual_fn (xs ys : List Int) : PFn Try.prog f_slices_Equal_Lint64_int64 [ilS xs, ilS ys] (Bv (decide (xs = ys))) := by
  intro H; refine ACalls.introB s_slices_Equal_Lint64_int64 (by simp) ?_; intro hB hA; unfold c_slices_Equal_Lint64_int64; simp (config := { maxSteps := 1000000 }) (disch := (first | omega | (simp only [go_sem]; try omega))) only [go_sem, Nat.reduceAdd, Nat.reduceEqDiff, Nat.reduceLeDiff, Nat.reduceMul, Nat.reduceLT, reduceIte, Int.reduceToNat, w64_id, cast_succ]
  repeat (first | (with_reducible first | refine SW.seq ?_ | refine SW.block ?_ | refine SW.rowC ?_ | refine SW.skip ?_ | refine SW.exit ?_ | intro _ | refine And.intro (by omega) ?_) | simp (config := { maxSteps := 1000000 }) (disch := (first | omega | (simp only [go_sem]; try omega))) only [go_sem, Nat.reduceAdd, Nat.reduceEqDiff, Nat.reduceLeDiff, Nat.reduceMul, Nat.reduceLT, reduceIte, Int.reduceToNat, w64_id, cast_succ])
  (first | refine SW.condD rfl (fun h0 => ?_) (fun h0 => ?_) | refine SW.condN rfl (fun h0 => ?_) (fun h0 => ?_) | refine SW.condNB rfl (fun h0 => ?_) (fun h0 => ?_) | refine SW.condB rfl (fun h0 => ?_) (fun h0 => ?_))
  · repeat (first | (with_reducible first | refine SW.seq ?_ | refine SW.block ?_ | refine SW.rowC ?_ | refine SW.skip ?_ | refine SW.exit ?_ | intro _ | refine And.intro (by omega) ?_) | simp (config := { maxSteps := 1000000 }) (disch := (first | omega | (simp only [go_sem]; try omega))) only [go_sem, Nat.reduceAdd, Nat.reduceEqDiff, Nat.reduceLeDiff, Nat.reduceMul, Nat.reduceLT, reduceIte, Int.reduceToNat, w64_id, cast_succ])
    refine SW.ret ?_; (try simp only [go_sem]); (first | refine FunPost.one ?_ | refine FunPost.two ?_ | refine FunPost.three ?_); (try simp (config := { maxSteps := 1000000 }) (disch := (first | omega | (simp only [go_sem]; try omega))) only [go_sem, Nat.reduceAdd, Nat.reduceEqDiff, Nat.reduceLeDiff, Nat.reduceMul, Nat.reduceLT, reduceIte, Int.reduceToNat, w64_id, cast_succ]); (first | (with_reducible refine GR.drop ?_ ?_; (simp only [go_sem, and_self, and_true, true_and, implies_true, List.take_succ_cons, List.take_zero])) | refine GR.of ?_); refine ⟨?_, rfl⟩; (try with_reducible rfl)
    have : ¬ xs = ys := by rintro rfl; omega
    simp [this]
  have h0 : xs.length = ys.length := by omega
  repeat (first | (with_reducible first | refine SW.seq ?_ | refine SW.block ?_ | refine SW.rowC ?_ | refine SW.skip ?_ | refine SW.exit ?_ | intro _ | refine And.intro (by omega) ?_) | simp (config := { maxSteps := 1000000 }) (disch := (first | omega | (simp only [go_sem]; try omega))) only [go_sem, Nat.reduceAdd, Nat.reduceEqDiff, Nat.reduceLeDiff, Nat.reduceMul, Nat.reduceLT, reduceIte, Int.reduceToNat, w64_id, cast_succ])
  refine SW.loopE (fun E0 H0 q E' H' => ∃ (pre post : List Int), xs = pre ++ post ∧ q = post.length ∧ E' = aput E0 13 (I pre.length) ∧ H' = H0 ∧ ys.take pre.length = pre) xs.length ⟨[], xs, rfl, rfl, rfl, rfl, rfl⟩ ?_
  rintro q E' H' ⟨pre, post, hq, rfl, rfl, rfl, he⟩
  simp (config := { maxSteps := 1000000 }) (disch := (first | omega | (simp only [go_sem]; try omega))) only [go_sem, Nat.reduceAdd, Nat.reduceEqDiff, Nat.reduceLeDiff, Nat.reduceMul, Nat.reduceLT, reduceIte, Int.reduceToNat, w64_id, cast_succ]
  repeat (first | (with_reducible first | refine SW.seq ?_ | refine SW.block ?_ | refine SW.rowC ?_ | refine SW.skip ?_ | refine SW.exit ?_ | intro _ | refine And.intro (by omega) ?_) | simp (config := { maxSteps := 1000000 }) (disch := (first | omega | (simp only [go_sem]; try omega))) only [go_sem, Nat.reduceAdd, Nat.reduceEqDiff, Nat.reduceLeDiff, Nat.reduceMul, Nat.reduceLT, reduceIte, Int.reduceToNat, w64_id, cast_succ])
  (first | refine SW.condD rfl (fun h => ?_) (fun h => ?_) | refine SW.condN rfl (fun h => ?_) (fun h => ?_) | refine SW.condNB rfl (fun h => ?_) (fun h => ?_) | refine SW.condB rfl (fun h => ?_) (fun h => ?_))
  · obtain ⟨x, post, rfl, hg, -⟩ := consOf (d := 0) hq (by omega)
    have hlt : pre.length < ys.length := by rw [← h0, hq]; simp
    have ht : ys.take (pre.length + 1) = pre ++ [ys.getD pre.length 0] := by
      rw [List.take_add_one, he]; simp [List.getElem?_eq_getElem hlt]
    repeat (first | (with_reducible first | refine SW.seq ?_ | refine SW.block ?_ | refine SW.rowC ?_ | refine SW.skip ?_ | refine SW.exit ?_ | intro _ | refine And.intro (by omega) ?_) | simp (config := { maxSteps := 1000000 }) (disch := (first | omega | (simp only [go_sem]; try omega))) only [go_sem, Nat.reduceAdd, Nat.reduceEqDiff, Nat.reduceLeDiff, Nat.reduceMul, Nat.reduceLT, reduceIte, Int.reduceToNat, w64_id, cast_succ, hg])
    (first | refine SW.condD rfl (fun h2 => ?_) (fun h2 => ?_) | refine SW.condN rfl (fun h2 => ?_) (fun h2 => ?_) | refine SW.condNB rfl (fun h2 => ?_) (fun h2 => ?_) | refine SW.condB rfl (fun h2 => ?_) (fun h2 => ?_))
    · repeat (first | (with_reducible first | refine SW.seq ?_ | refine SW.block ?_ | refine SW.rowC ?_ | refine SW.skip ?_ | refine SW.exit ?_ | intro _ | refine And.intro (by omega) ?_) | simp (config := { maxSteps := 1000000 }) (disch := (first | omega | (simp only [go_sem]; try omega))) only [go_sem, Nat.reduceAdd, Nat.reduceEqDiff, Nat.reduceLeDiff, Nat.reduceMul, Nat.reduceLT, reduceIte, Int.reduceToNat, w64_id, cast_succ])
      refine SW.ret ?_; (try simp only [go_sem]); (first | refine FunPost.one ?_ | refine FunPost.two ?_ | refine FunPost.three ?_); (try simp (config := { maxSteps := 1000000 }) (disch := (first | omega | (simp only [go_sem]; try omega))) only [go_sem, Nat.reduceAdd, Nat.reduceEqDiff, Nat.reduceLeDiff, Nat.reduceMul, Nat.reduceLT, reduceIte, Int.reduceToNat, w64_id, cast_succ]); (first | (with_reducible refine GR.drop ?_ ?_; (simp only [go_sem, and_self, and_true, true_and, implies_true, List.take_succ_cons, List.take_zero])) | refine GR.of ?_); refine ⟨?_, rfl⟩; (try with_reducible rfl)
      refine congrArg Bv (decide_eq_false ?_).symm
      rintro rfl
      exact h2 hg.symm
    · repeat (first | (with_reducible first | refine SW.seq ?_ | refine SW.block ?_ | refine SW.rowC ?_ | refine SW.skip ?_ | refine SW.exit ?_ | intro _ | refine And.intro (by omega) ?_) | simp (config := { maxSteps := 1000000 }) (disch := (first | omega | (simp only [go_sem]; try omega))) only [go_sem, Nat.reduceAdd, Nat.reduceEqDiff, Nat.reduceLeDiff, Nat.reduceMul, Nat.reduceLT, reduceIte, Int.reduceToNat, w64_id, cast_succ])
      refine SLoop.next post.length (by simp) ⟨pre ++ [x], post, by simp [hq], rfl, ?_, rfl, ?_⟩
      · simp [go_sem]
      · rw [List.length_append, List.length_singleton, ht, h2]
  · obtain ⟨rfl, rfl⟩ := nilOf hq (by omega)
    repeat (first | (with_reducible first | refine SW.seq ?_ | refine SW.block ?_ | refine SW.rowC ?_ | refine SW.skip ?_ | refine SW.exit ?_ | intro _ | refine And.intro (by omega) ?_) | simp (config := { maxSteps := 1000000 }) (disch := (first | omega | (simp only [go_sem]; try omega))) only [go_sem, Nat.reduceAdd, Nat.reduceEqDiff, Nat.reduceLeDiff, Nat.reduceMul, Nat.reduceLT, reduceIte, Int.reduceToNat, w64_id, cast_succ])
    refine SW.ret ?_; (try simp only [go_sem]); (first | refine FunPost.one ?_ | refine FunPost.two ?_ | refine FunPost.three ?_); (try simp (config := { maxSteps := 1000000 }) (disch := (first | omega | (simp only [go_sem]; try omega))) only [go_sem, Nat.reduceAdd, Nat.reduceEqDiff, Nat.reduceLeDiff, Nat.reduceMul, Nat.reduceLT, reduceIte, Int.reduceToNat, w64_id, cast_succ]); (first | (with_reducible refine GR.drop ?_ ?_; (simp only [go_sem, and_self, and_true, true_and, implies_true, List.take_succ_cons, List.take_zero])) | refine GR.of ?_); refine ⟨?_, rfl⟩; (try with_reducible rfl)
    have : pre = ys := by rw [← he, h0, List.take_length]
    rw [decide_eq_true this]

theorem isDesignPacking_fn (n : Nat) (xss : List (List Int)) (k lam : Int) (hn : n ≤ 32) (hx : ∀ s ∈ xss, asc 0 (n - 1) s = true) (hl : xss.length ≤ 128) : PFn Try.prog f_impl_isDesignPacking [.agg [I n, ilSS xss], I k, I lam] (Bv (packB n xss k lam)) := by
  intro H; refine ACalls.introB s_impl_isDesignPacking (by simp) ?_; intro hB hA; unfold c_impl_isDesignPacking; simp (config := { maxSteps := 1000000 }) (disch := (first | omega | (simp only [go_sem]; try omega))) only [go_sem, Nat.reduceAdd, Nat.reduceEqDiff, Nat.reduceLeDiff, Nat.reduceMul, Nat.reduceLT, reduceIte, Int.reduceToNat, w64_id, cast_succ]
  repeat (first | (with_reducible first | refine SW.seq ?_ | refine SW.block ?_ | refine SW.rowC ?_ | refine SW.skip ?_ | refine SW.exit ?_ | intro _ | refine And.intro (by omega) ?_) | simp (config := { maxSteps := 1000000 }) (disch := (first | omega | (simp only [go_sem]; try omega))) only [go_sem, Nat.reduceAdd, Nat.reduceEqDiff, Nat.reduceLeDiff, Nat.reduceMul, Nat.reduceLT, reduceIte, Int.reduceToNat, w64_id, cast_succ])
  refine SW.loopE (fun E0 H0 q E' H' => ∃ (pre post : List (List Int)), xss = pre ++ post ∧ q = post.length ∧ E' = aput E0 12 (I pre.length) ∧ H' = H0 ∧ pre.all (fun b => decide ((b.length : Int) = k)) = true ∧ adjB (fun x y => !decide (x = y)) pre = true) xss.length ⟨[], xss, rfl, rfl, rfl, rfl, rfl, rfl⟩ ?_
  rintro q E' H' ⟨pre, post, hq, rfl, rfl, rfl, ha, hs⟩
  simp (config := { maxSteps := 1000000 }) (disch := (first | omega | (simp only [go_sem]; try omega))) only [go_sem, Nat.reduceAdd, Nat.reduceEqDiff, Nat.reduceLeDiff, Nat.reduceMul, Nat.reduceLT, reduceIte, Int.reduceToNat, w64_id, cast_succ]
  repeat (first | (with_reducible first | refine SW.seq ?_ | refine SW.block ?_ | refine SW.rowC ?_ | refine SW.skip ?_ | refine SW.exit ?_ | intro _ | refine And.intro (by omega) ?_) | simp (config := { maxSteps := 1000000 }) (disch := (first | omega | (simp only [go_sem]; try omega))) only [go_sem, Nat.reduceAdd, Nat.reduceEqDiff, Nat.reduceLeDiff, Nat.reduceMul, Nat.reduceLT, reduceIte, Int.reduceToNat, w64_id, cast_succ])
  (first | refine SW.condD rfl (fun h => ?_) (fun h => ?_) | refine SW.condN rfl (fun h => ?_) (fun h => ?_) | refine SW.condNB rfl (fun h => ?_) (fun h => ?_) | refine SW.condB rfl (fun h => ?_) (fun h => ?_))
  · obtain ⟨x, post, rfl, hg, -⟩ := consOf (d := []) hq (by omega)
    have bad : ((x.length : Int) ≠ k ∨ adjB (fun x y : List Int => !decide (x = y)) (pre ++ [x]) = false) → packB n xss k lam = false := by
      intro hh
      rw [Bool.eq_false_iff]
      intro hd
      simp only [packB, Bool.and_eq_true] at hd
      rcases hh with hh | hh
      · have := List.all_eq_true.1 hd.1.1.1 x (by rw [hq]; simp)
        exact hh (of_decide_eq_true this)
      · have := adjB_pre (fun x y : List Int => !decide (x = y)) (pre ++ [x]) post (by rw [← hd.1.1.2, hq]; simp)
        rw [hh] at this; cases this
    repeat (first | (with_reducible first | refine SW.seq ?_ | refine SW.block ?_ | refine SW.rowC ?_ | refine SW.skip ?_ | refine SW.exit ?_ | refine PFn.use (size_fn _) ?_ | refine PFn.useq (size_fn _) ?_ | intro _ | refine And.intro (by omega) ?_) | simp (config := { maxSteps := 1000000 }) (disch := (first | omega | (simp only [go_sem]; try omega))) only [go_sem, Nat.reduceAdd, Nat.reduceEqDiff, Nat.reduceLeDiff, Nat.reduceMul, Nat.reduceLT, reduceIte, Int.reduceToNat, w64_id, cast_succ, hg])
    (first | refine GSplit.df (fun h4 => ?_) (fun h4 => ?_) | refine GSplit.dt (fun h4 => ?_) (fun h4 => ?_) | refine GSplit.ndf (fun h4 => ?_) (fun h4 => ?_) | refine GSplit.ndt (fun h4 => ?_) (fun h4 => ?_) | refine GSplit.nbf (fun h4 => ?_) (fun h4 => ?_) | refine GSplit.nbt (fun h4 => ?_) (fun h4 => ?_) | refine GSplit.bf (fun h4 => ?_) (fun h4 => ?_) | refine GSplit.bt (fun h4 => ?_) (fun h4 => ?_))
    · (first | refine GSplit.df (fun h5 => ?_) (fun h5 => ?_) | refine GSplit.dt (fun h5 => ?_) (fun h5 => ?_) | refine GSplit.ndf (fun h5 => ?_) (fun h5 => ?_) | refine GSplit.ndt (fun h5 => ?_) (fun h5 => ?_) | refine GSplit.nbf (fun h5 => ?_) (fun h5 => ?_) | refine GSplit.nbt (fun h5 => ?_) (fun h5 => ?_) | refine GSplit.bf (fun h5 => ?_) (fun h5 => ?_) | refine GSplit.bt (fun h5 => ?_) (fun h5 => ?_))
      · obtain ⟨r, y, hr, hg2⟩ := lastOf (d := []) hq (by omega)
        have e1 : (pre.length : Int) - 1 = ((pre.length - 1 : Nat) : Int) := by omega
        repeat (first | (with_reducible first | refine SW.seq ?_ | refine SW.block ?_ | refine SW.rowC ?_ | refine SW.skip ?_ | refine SW.exit ?_ | refine PFn.use (slicesEqual_fn _ _) ?_ | refine PFn.useq (slicesEqual_fn _ _) ?_ | intro _ | refine And.intro (by omega) ?_) | simp (config := { maxSteps := 1000000 }) (disch := (first | omega | (simp only [go_sem]; try omega))) only [go_sem, Nat.reduceAdd, Nat.reduceEqDiff, Nat.reduceLeDiff, Nat.reduceMul, Nat.reduceLT, reduceIte, Int.reduceToNat, w64_id, cast_succ, e1, hg, hg2])
        (first | refine SW.condD rfl (fun h6 => ?_) (fun h6 => ?_) | refine SW.condN rfl (fun h6 => ?_) (fun h6 => ?_) | refine SW.condNB rfl (fun h6 => ?_) (fun h6 => ?_) | refine SW.condB rfl (fun h6 => ?_) (fun h6 => ?_))
        · repeat (first | (with_reducible first | refine SW.seq ?_ | refine SW.block ?_ | refine SW.rowC ?_ | refine SW.skip ?_ | refine SW.exit ?_ | intro _ | refine And.intro (by omega) ?_) | simp (config := { maxSteps := 1000000 }) (disch := (first | omega | (simp only [go_sem]; try omega))) only [go_sem, Nat.reduceAdd, Nat.reduceEqDiff, Nat.reduceLeDiff, Nat.reduceMul, Nat.reduceLT, reduceIte, Int.reduceToNat, w64_id, cast_succ])
          refine SW.ret ?_; (try simp only [go_sem]); (first | refine FunPost.one ?_ | refine FunPost.two ?_ | refine FunPost.three ?_); (try simp (config := { maxSteps := 1000000 }) (disch := (first | omega | (simp only [go_sem]; try omega))) only [go_sem, Nat.reduceAdd, Nat.reduceEqDiff, Nat.reduceLeDiff, Nat.reduceMul, Nat.reduceLT, reduceIte, Int.reduceToNat, w64_id, cast_succ]); (first | (with_reducible refine GR.drop ?_ ?_; (simp only [go_sem, and_self, and_true, true_and, implies_true, List.take_succ_cons, List.take_zero])) | refine GR.of ?_); refine ⟨?_, rfl⟩; (try with_reducible rfl)
          rw [bad (.inr ?_)]
          rw [hr, adjB_snoc, h6]; simp
        · repeat (first | (with_reducible first | refine SW.seq ?_ | refine SW.block ?_ | refine SW.rowC ?_ | refine SW.skip ?_ | refine SW.exit ?_ | intro _ | refine And.intro (by omega) ?_) | simp (config := { maxSteps := 1000000 }) (disch := (first | omega | (simp only [go_sem]; try omega))) only [go_sem, Nat.reduceAdd, Nat.reduceEqDiff, Nat.reduceLeDiff, Nat.reduceMul, Nat.reduceLT, reduceIte, Int.reduceToNat, w64_id, cast_succ])
          refine SLoop.next post.length (by simp) ⟨pre ++ [x], post, by simp [hq], rfl, ?_, rfl, ?_, ?_⟩
          · simp [go_sem]
          · rw [List.all_append, ha]; simp [h4]
          · rw [hr, adjB_snoc, ← hr, hs]; simp [h6]
      · have : pre = [] := by
          cases pre with
          | nil => rfl
          | cons y pre => exfalso; simp at h5
        subst this
        repeat (first | (with_reducible first | refine SW.seq ?_ | refine SW.block ?_ | refine SW.rowC ?_ | refine SW.skip ?_ | refine SW.exit ?_ | intro _ | refine And.intro (by omega) ?_) | simp (config := { maxSteps := 1000000 }) (disch := (first | omega | (simp only [go_sem]; try omega))) only [go_sem, Nat.reduceAdd, Nat.reduceEqDiff, Nat.reduceLeDiff, Nat.reduceMul, Nat.reduceLT, reduceIte, Int.reduceToNat, w64_id, cast_succ])
        (first | refine SW.condD rfl (fun h6 => ?_) (fun h6 => ?_) | refine SW.condN rfl (fun h6 => ?_) (fun h6 => ?_) | refine SW.condNB rfl (fun h6 => ?_) (fun h6 => ?_) | refine SW.condB rfl (fun h6 => ?_) (fun h6 => ?_))
        · cases h6
        repeat (first | (with_reducible first | refine SW.seq ?_ | refine SW.block ?_ | refine SW.rowC ?_ | refine SW.skip ?_ | refine SW.exit ?_ | intro _ | refine And.intro (by omega) ?_) | simp (config := { maxSteps := 1000000 }) (disch := (first | omega | (simp only [go_sem]; try omega))) only [go_sem, Nat.reduceAdd, Nat.reduceEqDiff, Nat.reduceLeDiff, Nat.reduceMul, Nat.reduceLT, reduceIte, Int.reduceToNat, w64_id, cast_succ])
        refine SLoop.next post.length (by simp) ⟨[] ++ [x], post, by simp [hq], rfl, ?_, rfl, ?_, rfl⟩
        · simp [go_sem]
        · simp [h4]
    · repeat (first | (with_reducible first | refine SW.seq ?_ | refine SW.block ?_ | refine SW.rowC ?_ | refine SW.skip ?_ | refine SW.exit ?_ | intro _ | refine And.intro (by omega) ?_) | simp (config := { maxSteps := 1000000 }) (disch := (first | omega | (simp only [go_sem]; try omega))) only [go_sem, Nat.reduceAdd, Nat.reduceEqDiff, Nat.reduceLeDiff, Nat.reduceMul, Nat.reduceLT, reduceIte, Int.reduceToNat, w64_id, cast_succ])
      (first | refine SW.condD rfl (fun h6 => ?_) (fun h6 => ?_) | refine SW.condN rfl (fun h6 => ?_) (fun h6 => ?_) | refine SW.condNB rfl (fun h6 => ?_) (fun h6 => ?_) | refine SW.condB rfl (fun h6 => ?_) (fun h6 => ?_))
      · repeat (first | (with_reducible first | refine SW.seq ?_ | refine SW.block ?_ | refine SW.rowC ?_ | refine SW.skip ?_ | refine SW.exit ?_ | intro _ | refine And.intro (by omega) ?_) | simp (config := { maxSteps := 1000000 }) (disch := (first | omega | (simp only [go_sem]; try omega))) only [go_sem, Nat.reduceAdd, Nat.reduceEqDiff, Nat.reduceLeDiff, Nat.reduceMul, Nat.reduceLT, reduceIte, Int.reduceToNat, w64_id, cast_succ])
        refine SW.ret ?_; (try simp only [go_sem]); (first | refine FunPost.one ?_ | refine FunPost.two ?_ | refine FunPost.three ?_); (try simp (config := { maxSteps := 1000000 }) (disch := (first | omega | (simp only [go_sem]; try omega))) only [go_sem, Nat.reduceAdd, Nat.reduceEqDiff, Nat.reduceLeDiff, Nat.reduceMul, Nat.reduceLT, reduceIte, Int.reduceToNat, w64_id, cast_succ]); (first | (with_reducible refine GR.drop ?_ ?_; (simp only [go_sem, and_self, and_true, true_and, implies_true, List.take_succ_cons, List.take_zero])) | refine GR.of ?_); refine ⟨?_, rfl⟩; (try with_reducible rfl)
        rw [bad (.inl h4)]
      · cases h6
  · obtain ⟨rfl, rfl⟩ := nilOf hq (by omega)
    repeat (first | (with_reducible first | refine SW.seq ?_ | refine SW.block ?_ | refine SW.rowC ?_ | refine SW.skip ?_ | refine SW.exit ?_ | intro _ | refine And.intro (by omega) ?_) | simp (config := { maxSteps := 1000000 }) (disch := (first | omega | (simp only [go_sem]; try omega))) only [go_sem, Nat.reduceAdd, Nat.reduceEqDiff, Nat.reduceLeDiff, Nat.reduceMul, Nat.reduceLT, reduceIte, Int.reduceToNat, w64_id, cast_succ])
    (first | refine GSplit.df (fun h6 => ?_) (fun h6 => ?_) | refine GSplit.dt (fun h6 => ?_) (fun h6 => ?_) | refine GSplit.ndf (fun h6 => ?_) (fun h6 => ?_) | refine GSplit.ndt (fun h6 => ?_) (fun h6 => ?_) | refine GSplit.nbf (fun h6 => ?_) (fun h6 => ?_) | refine GSplit.nbt (fun h6 => ?_) (fun h6 => ?_) | refine GSplit.bf (fun h6 => ?_) (fun h6 => ?_) | refine GSplit.bt (fun h6 => ?_) (fun h6 => ?_))
    · repeat (first | (with_reducible first | refine SW.seq ?_ | refine SW.block ?_ | refine SW.rowC ?_ | refine SW.skip ?_ | refine SW.exit ?_ | refine PFn.use ((pairCounts_new n pre hn hx hl).pfn) ?_ | refine PFn.useq ((pairCounts_new n pre hn hx hl).pfn) ?_ | intro _ | refine And.intro (by omega) ?_) | simp (config := { maxSteps := 1000000 }) (disch := (first | omega | (simp only [go_sem]; try omega))) only [go_sem, Nat.reduceAdd, Nat.reduceEqDiff, Nat.reduceLeDiff, Nat.reduceMul, Nat.reduceLT, reduceIte, Int.reduceToNat, w64_id, cast_succ])
      refine (conS_ok I _ _ (pairsL n pre) rfl _ _ (by kernel_rfl) (fun c => decide (lam < c)) (fun c _ => pairs_c1_ok _ (H.length + 1) 2 c lam (by simp))).mono ?_
      rintro r H' ⟨rfl, rfl⟩
      repeat (first | (with_reducible first | refine SW.seq ?_ | refine SW.block ?_ | refine SW.rowC ?_ | refine SW.skip ?_ | refine SW.exit ?_ | intro _ | refine And.intro (by omega) ?_) | simp (config := { maxSteps := 1000000 }) (disch := (first | omega | (simp only [go_sem]; try omega))) only [go_sem, Nat.reduceAdd, Nat.reduceEqDiff, Nat.reduceLeDiff, Nat.reduceMul, Nat.reduceLT, reduceIte, Int.reduceToNat, w64_id, cast_succ])
      refine SW.ret ?_; (try simp only [go_sem]); (first | refine FunPost.one ?_ | refine FunPost.two ?_ | refine FunPost.three ?_); (try simp (config := { maxSteps := 1000000 }) (disch := (first | omega | (simp only [go_sem]; try omega))) only [go_sem, Nat.reduceAdd, Nat.reduceEqDiff, Nat.reduceLeDiff, Nat.reduceMul, Nat.reduceLT, reduceIte, Int.reduceToNat, w64_id, cast_succ]); (first | (with_reducible refine GR.drop ?_ ?_; (simp only [go_sem, and_self, and_true, true_and, implies_true, List.take_succ_cons, List.take_zero])) | refine GR.of ?_); refine ⟨?_, rfl⟩; (try with_reducible rfl)
      rw [packB, ha, hs, decide_eq_true h6]; simp [List.any_eq_not_all_not]
    · repeat (first | (with_reducible first | refine SW.seq ?_ | refine SW.block ?_ | refine SW.rowC ?_ | refine SW.skip ?_ | refine SW.exit ?_ | intro _ | refine And.intro (by omega) ?_) | simp (config := { maxSteps := 1000000 }) (disch := (first | omega | (simp only [go_sem]; try omega))) only [go_sem, Nat.reduceAdd, Nat.reduceEqDiff, Nat.reduceLeDiff, Nat.reduceMul, Nat.reduceLT, reduceIte, Int.reduceToNat, w64_id, cast_succ])
      refine SW.ret ?_; (try simp only [go_sem]); (first | refine FunPost.one ?_ | refine FunPost.two ?_ | refine FunPost.three ?_); (try simp (config := { maxSteps := 1000000 }) (disch := (first | omega | (simp only [go_sem]; try omega))) only [go_sem, Nat.reduceAdd, Nat.reduceEqDiff, Nat.reduceLeDiff, Nat.reduceMul, Nat.reduceLT, reduceIte, Int.reduceToNat, w64_id, cast_succ]); (first | (with_reducible refine GR.drop ?_ ?_; (simp only [go_sem, and_self, and_true, true_and, implies_true, List.take_succ_cons, List.take_zero])) | refine GR.of ?_); refine ⟨?_, rfl⟩; (try with_reducible rfl)
      rw [packB, decide_eq_false h6]; simp

theorem designB_facts {v : Int} {xss : List (List Int)} (h : designB v xss = true) : 1 ≤ v ∧ v ≤ 32 ∧ xss.length ≤ 128 ∧ ∀ s ∈ xss, asc 0 (v - 1) s = true := by
  simp only [designB, Bool.and_eq_true, decide_eq_true_eq, List.all_eq_true] at h
  refine ⟨h.1.1.1.1, h.1.1.1.2, h.1.2, fun s hs => ?_⟩
  have := h.1.1.2 s hs
  simp only [blkB, Bool.and_eq_true] at this
  exact this.2
theorem implIsPacking_fn (v : Int) (xss : List (List Int)) (k lam : Int) : PFn Try.prog f_impl_IsPacking [.agg [I v, ilSS xss], I k, I lam] (Bv (designB v xss && packB v.toNat xss k lam)) := by
  intro H; refine ACalls.introB s_impl_IsPacking (by simp) ?_; intro hB hA; unfold c_impl_IsPacking; simp (config := { maxSteps := 1000000 }) (disch := (first | omega | (simp only [go_sem]; try omega))) only [go_sem, Nat.reduceAdd, Nat.reduceEqDiff, Nat.reduceLeDiff, Nat.reduceMul, Nat.reduceLT, reduceIte, Int.reduceToNat, w64_id, cast_succ]
  repeat (first | (with_reducible first | refine SW.seq ?_ | refine SW.block ?_ | refine SW.rowC ?_ | refine SW.skip ?_ | refine SW.exit ?_ | refine PFn.use (ValidDesign_fn v xss) ?_ | refine PFn.useq (ValidDesign_fn v xss) ?_ | intro _ | refine And.intro (by omega) ?_) | simp (config := { maxSteps := 1000000 }) (disch := (first | omega | (simp only [go_sem]; try omega))) only [go_sem, Nat.reduceAdd, Nat.reduceEqDiff, Nat.reduceLeDiff, Nat.reduceMul, Nat.reduceLT, reduceIte, Int.reduceToNat, w64_id, cast_succ])
  (first | refine GSplit.df (fun h => ?_) (fun h => ?_) | refine GSplit.dt (fun h => ?_) (fun h => ?_) | refine GSplit.ndf (fun h => ?_) (fun h => ?_) | refine GSplit.ndt (fun h => ?_) (fun h => ?_) | refine GSplit.nbf (fun h => ?_) (fun h => ?_) | refine GSplit.nbt (fun h => ?_) (fun h => ?_) | refine GSplit.bf (fun h => ?_) (fun h => ?_) | refine GSplit.bt (fun h => ?_) (fun h => ?_))
  · have hf := designB_facts h
    obtain ⟨n, rfl⟩ := Int.eq_ofNat_of_zero_le (show 0 ≤ v by omega)
    repeat (first | (with_reducible first | refine SW.seq ?_ | refine SW.block ?_ | refine SW.rowC ?_ | refine SW.skip ?_ | refine SW.exit ?_ | refine PFn.use (isDesignPacking_fn n xss k lam (by omega) hf.2.2.2 hf.2.2.1) ?_ | refine PFn.useq (isDesignPacking_fn n xss k lam (by omega) hf.2.2.2 hf.2.2.1) ?_ | intro _ | refine And.intro (by omega) ?_) | simp (config := { maxSteps := 1000000 }) (disch := (first | omega | (simp only [go_sem]; try omega))) only [go_sem, Nat.reduceAdd, Nat.reduceEqDiff, Nat.reduceLeDiff, Nat.reduceMul, Nat.reduceLT, reduceIte, Int.reduceToNat, w64_id, cast_succ])
    refine SW.ret ?_; (try simp only [go_sem]); (first | refine FunPost.one ?_ | refine FunPost.two ?_ | refine FunPost.three ?_); (try simp (config := { maxSteps := 1000000 }) (disch := (first | omega | (simp only [go_sem]; try omega))) only [go_sem, Nat.reduceAdd, Nat.reduceEqDiff, Nat.reduceLeDiff, Nat.reduceMul, Nat.reduceLT, reduceIte, Int.reduceToNat, w64_id, cast_succ]); (first | (with_reducible refine GR.drop ?_ ?_; (simp only [go_sem, and_self, and_true, true_and, implies_true, List.take_succ_cons, List.take_zero])) | refine GR.of ?_); refine ⟨?_, rfl⟩; (try with_reducible rfl)
    rw [h]; rfl
  · repeat (first | (with_reducible first | refine SW.seq ?_ | refine SW.block ?_ | refine SW.rowC ?_ | refine SW.skip ?_ | refine SW.exit ?_ | intro _ | refine And.intro (by omega) ?_) | simp (config := { maxSteps := 1000000 }) (disch := (first | omega | (simp only [go_sem]; try omega))) only [go_sem, Nat.reduceAdd, Nat.reduceEqDiff, Nat.reduceLeDiff, Nat.reduceMul, Nat.reduceLT, reduceIte, Int.reduceToNat, w64_id, cast_succ])
    refine SW.ret ?_; (try simp only [go_sem]); (first | refine FunPost.one ?_ | refine FunPost.two ?_ | refine FunPost.three ?_); (try simp (config := { maxSteps := 1000000 }) (disch := (first | omega | (simp only [go_sem]; try omega))) only [go_sem, Nat.reduceAdd, Nat.reduceEqDiff, Nat.reduceLeDiff, Nat.reduceMul, Nat.reduceLT, reduceIte, Int.reduceToNat, w64_id, cast_succ]); (first | (with_reducible refine GR.drop ?_ ?_; (simp only [go_sem, and_self, and_true, true_and, implies_true, List.take_succ_cons, List.take_zero])) | refine GR.of ?_); refine ⟨?_, rfl⟩; (try with_reducible rfl)
    rw [h]; rfl

theorem l28Packing_ok (H : List Blk) (p : Nat) (v : Int) (xss : List (List Int)) (k lam : Int) (hx : ∀ xs ∈ xss, ∀ x ∈ xs, (Lit.int .i64 x).wf = true) (hp : H[p]? = some ⟨0, tyD, 1, [I v, ilSS xss]⟩) :
    ACalls Try.prog f_spec_l28Packing [.pc p 0 0, I k, I lam] H (fun r H' => r = Bv (designB v xss && packB v.toNat xss k lam) ∧ H' = H) := by
  refine ACalls.introB s_spec_l28Packing (by simp) ?_; intro hB hA; unfold c_spec_l28Packing; simp (config := { maxSteps := 1000000 }) (disch := (first | omega | (simp only [go_sem]; try omega))) only [go_sem, Nat.reduceAdd, Nat.reduceEqDiff, Nat.reduceLeDiff, Nat.reduceMul, Nat.reduceLT, reduceIte, Int.reduceToNat, w64_id, cast_succ]
  repeat (first | (with_reducible first | refine SW.seq ?_ | refine SW.block ?_ | refine SW.rowC ?_ | refine SW.skip ?_ | refine SW.exit ?_ | intro _ | refine And.intro (by omega) ?_) | simp (config := { maxSteps := 1000000 }) (disch := (first | omega | (simp only [go_sem]; try omega))) only [go_sem, Nat.reduceAdd, Nat.reduceEqDiff, Nat.reduceLeDiff, Nat.reduceMul, Nat.reduceLT, reduceIte, Int.reduceToNat, w64_id, cast_succ])
  refine ACalls.fn (l10Ok_ok H p 0 v xss hx hp) ?_
  repeat (first | (with_reducible first | refine SW.seq ?_ | refine SW.block ?_ | refine SW.rowC ?_ | refine SW.skip ?_ | refine SW.exit ?_ | intro _ | refine And.intro (by omega) ?_) | simp (config := { maxSteps := 1000000 }) (disch := (first | omega | (simp only [go_sem]; try omega))) only [go_sem, Nat.reduceAdd, Nat.reduceEqDiff, Nat.reduceLeDiff, Nat.reduceMul, Nat.reduceLT, reduceIte, Int.reduceToNat, w64_id, cast_succ])
  (first | refine GSplit.df (fun h0 => ?_) (fun h0 => ?_) | refine GSplit.dt (fun h0 => ?_) (fun h0 => ?_) | refine GSplit.ndf (fun h0 => ?_) (fun h0 => ?_) | refine GSplit.ndt (fun h0 => ?_) (fun h0 => ?_) | refine GSplit.nbf (fun h0 => ?_) (fun h0 => ?_) | refine GSplit.nbt (fun h0 => ?_) (fun h0 => ?_) | refine GSplit.bf (fun h0 => ?_) (fun h0 => ?_) | refine GSplit.bt (fun h0 => ?_) (fun h0 => ?_))
  rotate_left
  · rw [h0]
    repeat (first | (with_reducible first | refine SW.seq ?_ | refine SW.block ?_ | refine SW.rowC ?_ | refine SW.skip ?_ | refine SW.exit ?_ | intro _ | refine And.intro (by omega) ?_) | simp (config := { maxSteps := 1000000 }) (disch := (first | omega | (simp only [go_sem]; try omega))) only [go_sem, Nat.reduceAdd, Nat.reduceEqDiff, Nat.reduceLeDiff, Nat.reduceMul, Nat.reduceLT, reduceIte, Int.reduceToNat, w64_id, cast_succ])
    (first | refine SW.condD rfl (fun h2 => ?_) (fun h2 => ?_) | refine SW.condN rfl (fun h2 => ?_) (fun h2 => ?_) | refine SW.condNB rfl (fun h2 => ?_) (fun h2 => ?_) | refine SW.condB rfl (fun h2 => ?_) (fun h2 => ?_))
    · repeat (first | (with_reducible first | refine SW.seq ?_ | refine SW.block ?_ | refine SW.rowC ?_ | refine SW.skip ?_ | refine SW.exit ?_ | intro _ | refine And.intro (by omega) ?_) | simp (config := { maxSteps := 1000000 }) (disch := (first | omega | (simp only [go_sem]; try omega))) only [go_sem, Nat.reduceAdd, Nat.reduceEqDiff, Nat.reduceLeDiff, Nat.reduceMul, Nat.reduceLT, reduceIte, Int.reduceToNat, w64_id, cast_succ])
      refine SW.ret ?_; (try simp only [go_sem]); (first | refine FunPost.one ?_ | refine FunPost.two ?_ | refine FunPost.three ?_); (try simp (config := { maxSteps := 1000000 }) (disch := (first | omega | (simp only [go_sem]; try omega))) only [go_sem, Nat.reduceAdd, Nat.reduceEqDiff, Nat.reduceLeDiff, Nat.reduceMul, Nat.reduceLT, reduceIte, Int.reduceToNat, w64_id, cast_succ]); (first | (with_reducible refine GR.drop ?_ ?_; (simp only [go_sem, and_self, and_true, true_and, implies_true, List.take_succ_cons, List.take_zero])) | refine GR.of ?_); refine ⟨?_, rfl⟩; (try with_reducible rfl)
    · cases h2
  have hf := designB_facts h0
  obtain ⟨n, rfl⟩ := Int.eq_ofNat_of_zero_le (show 0 ≤ v by omega)
  rw [h0]
  repeat (first | (with_reducible first | refine SW.seq ?_ | refine SW.block ?_ | refine SW.rowC ?_ | refine SW.skip ?_ | refine SW.exit ?_ | intro _ | refine And.intro (by omega) ?_) | simp (config := { maxSteps := 1000000 }) (disch := (first | omega | (simp only [go_sem]; try omega))) only [go_sem, Nat.reduceAdd, Nat.reduceEqDiff, Nat.reduceLeDiff, Nat.reduceMul, Nat.reduceLT, reduceIte, Int.reduceToNat, w64_id, cast_succ])
  (first | refine SW.condD rfl (fun h1 => ?_) (fun h1 => ?_) | refine SW.condN rfl (fun h1 => ?_) (fun h1 => ?_) | refine SW.condNB rfl (fun h1 => ?_) (fun h1 => ?_) | refine SW.condB rfl (fun h1 => ?_) (fun h1 => ?_))
  · repeat (first | (with_reducible first | refine SW.seq ?_ | refine SW.block ?_ | refine SW.rowC ?_ | refine SW.skip ?_ | refine SW.exit ?_ | intro _ | refine And.intro (by omega) ?_) | simp (config := { maxSteps := 1000000 }) (disch := (first | omega | (simp only [go_sem]; try omega))) only [go_sem, Nat.reduceAdd, Nat.reduceEqDiff, Nat.reduceLeDiff, Nat.reduceMul, Nat.reduceLT, reduceIte, Int.reduceToNat, w64_id, cast_succ])
    refine SW.ret ?_; (try simp only [go_sem]); (first | refine FunPost.one ?_ | refine FunPost.two ?_ | refine FunPost.three ?_); (try simp (config := { maxSteps := 1000000 }) (disch := (first | omega | (simp only [go_sem]; try omega))) only [go_sem, Nat.reduceAdd, Nat.reduceEqDiff, Nat.reduceLeDiff, Nat.reduceMul, Nat.reduceLT, reduceIte, Int.reduceToNat, w64_id, cast_succ]); (first | (with_reducible refine GR.drop ?_ ?_; (simp only [go_sem, and_self, and_true, true_and, implies_true, List.take_succ_cons, List.take_zero])) | refine GR.of ?_); refine ⟨?_, rfl⟩; (try with_reducible rfl)
    rw [packB, decide_eq_false (show ¬ 0 < lam by omega)]; simp
  repeat (first | (with_reducible first | refine SW.seq ?_ | refine SW.block ?_ | refine SW.rowC ?_ | refine SW.skip ?_ | refine SW.exit ?_ | intro _ | refine And.intro (by omega) ?_) | simp (config := { maxSteps := 1000000 }) (disch := (first | omega | (simp only [go_sem]; try omega))) only [go_sem, Nat.reduceAdd, Nat.reduceEqDiff, Nat.reduceLeDiff, Nat.reduceMul, Nat.reduceLT, reduceIte, Int.reduceToNat, w64_id, cast_succ, pc_ld hp, pc_alive hp])
  refine SW.loopE (fun E0 H0 q E' H' => ∃ (pre post : List (List Int)), xss = pre ++ post ∧ q = post.length ∧ E' = aput E0 7 (I pre.length) ∧ H' = H0 ∧ pre.all (fun b => decide ((b.length : Int) = k)) = true ∧ adjB (fun x y => !decide (x = y)) pre = true) xss.length ⟨[], xss, rfl, rfl, rfl, rfl, rfl, rfl⟩ ?_
  rintro q E' H' ⟨pre, post, hq, rfl, rfl, rfl, ha, hs⟩
  simp (config := { maxSteps := 1000000 }) (disch := (first | omega | (simp only [go_sem]; try omega))) only [go_sem, Nat.reduceAdd, Nat.reduceEqDiff, Nat.reduceLeDiff, Nat.reduceMul, Nat.reduceLT, reduceIte, Int.reduceToNat, w64_id, cast_succ]
  repeat (first | (with_reducible first | refine SW.seq ?_ | refine SW.block ?_ | refine SW.rowC ?_ | refine SW.skip ?_ | refine SW.exit ?_ | intro _ | refine And.intro (by omega) ?_) | simp (config := { maxSteps := 1000000 }) (disch := (first | omega | (simp only [go_sem]; try omega))) only [go_sem, Nat.reduceAdd, Nat.reduceEqDiff, Nat.reduceLeDiff, Nat.reduceMul, Nat.reduceLT, reduceIte, Int.reduceToNat, w64_id, cast_succ, pc_ld hp, pc_alive hp])
  (first | refine SW.condD rfl (fun h => ?_) (fun h => ?_) | refine SW.condN rfl (fun h => ?_) (fun h => ?_) | refine SW.condNB rfl (fun h => ?_) (fun h => ?_) | refine SW.condB rfl (fun h => ?_) (fun h => ?_))
  · obtain ⟨x, post, rfl, hg, -⟩ := consOf (d := []) hq (by omega)
    have bad : ((x.length : Int) ≠ k ∨ adjB (fun x y : List Int => !decide (x = y)) (pre ++ [x]) = false) → packB n xss k lam = false := by
      intro hh
      rw [Bool.eq_false_iff]
      intro hd
      simp only [packB, Bool.and_eq_true] at hd
      rcases hh with hh | hh
      · have := List.all_eq_true.1 hd.1.1.1 x (by rw [hq]; simp)
        exact hh (of_decide_eq_true this)
      · have := adjB_pre (fun x y : List Int => !decide (x = y)) (pre ++ [x]) post (by rw [← hd.1.1.2, hq]; simp)
        rw [hh] at this; cases this
    repeat (first | (with_reducible first | refine SW.seq ?_ | refine SW.block ?_ | refine SW.rowC ?_ | refine SW.skip ?_ | refine SW.exit ?_ | intro _ | refine And.intro (by omega) ?_) | simp (config := { maxSteps := 1000000 }) (disch := (first | omega | (simp only [go_sem]; try omega))) only [go_sem, Nat.reduceAdd, Nat.reduceEqDiff, Nat.reduceLeDiff, Nat.reduceMul, Nat.reduceLT, reduceIte, Int.reduceToNat, w64_id, cast_succ, hg, pc_ld hp, pc_alive hp])
    (first | refine GSplit.df (fun h4 => ?_) (fun h4 => ?_) | refine GSplit.dt (fun h4 => ?_) (fun h4 => ?_) | refine GSplit.ndf (fun h4 => ?_) (fun h4 => ?_) | refine GSplit.ndt (fun h4 => ?_) (fun h4 => ?_) | refine GSplit.nbf (fun h4 => ?_) (fun h4 => ?_) | refine GSplit.nbt (fun h4 => ?_) (fun h4 => ?_) | refine GSplit.bf (fun h4 => ?_) (fun h4 => ?_) | refine GSplit.bt (fun h4 => ?_) (fun h4 => ?_))
    · (first | refine GSplit.df (fun h5 => ?_) (fun h5 => ?_) | refine GSplit.dt (fun h5 => ?_) (fun h5 => ?_) | refine GSplit.ndf (fun h5 => ?_) (fun h5 => ?_) | refine GSplit.ndt (fun h5 => ?_) (fun h5 => ?_) | refine GSplit.nbf (fun h5 => ?_) (fun h5 => ?_) | refine GSplit.nbt (fun h5 => ?_) (fun h5 => ?_) | refine GSplit.bf (fun h5 => ?_) (fun h5 => ?_) | refine GSplit.bt (fun h5 => ?_) (fun h5 => ?_))
      · obtain ⟨r, y, hr, hg2⟩ := lastOf (d := []) hq (by omega)
        have e1 : (pre.length : Int) - 1 = ((pre.length - 1 : Nat) : Int) := by omega
        repeat (first | (with_reducible first | refine SW.seq ?_ | refine SW.block ?_ | refine SW.rowC ?_ | refine SW.skip ?_ | refine SW.exit ?_ | refine PFn.use (l00Same_fn _ _) ?_ | refine PFn.useq (l00Same_fn _ _) ?_ | intro _ | refine And.intro (by omega) ?_) | simp (config := { maxSteps := 1000000 }) (disch := (first | omega | (simp only [go_sem]; try omega))) only [go_sem, Nat.reduceAdd, Nat.reduceEqDiff, Nat.reduceLeDiff, Nat.reduceMul, Nat.reduceLT, reduceIte, Int.reduceToNat, w64_id, cast_succ, e1, hg, hg2, pc_ld hp, pc_alive hp])
        (first | refine SW.condD rfl (fun h6 => ?_) (fun h6 => ?_) | refine SW.condN rfl (fun h6 => ?_) (fun h6 => ?_) | refine SW.condNB rfl (fun h6 => ?_) (fun h6 => ?_) | refine SW.condB rfl (fun h6 => ?_) (fun h6 => ?_))
        · repeat (first | (with_reducible first | refine SW.seq ?_ | refine SW.block ?_ | refine SW.rowC ?_ | refine SW.skip ?_ | refine SW.exit ?_ | intro _ | refine And.intro (by omega) ?_) | simp (config := { maxSteps := 1000000 }) (disch := (first | omega | (simp only [go_sem]; try omega))) only [go_sem, Nat.reduceAdd, Nat.reduceEqDiff, Nat.reduceLeDiff, Nat.reduceMul, Nat.reduceLT, reduceIte, Int.reduceToNat, w64_id, cast_succ])
          refine SW.ret ?_; (try simp only [go_sem]); (first | refine FunPost.one ?_ | refine FunPost.two ?_ | refine FunPost.three ?_); (try simp (config := { maxSteps := 1000000 }) (disch := (first | omega | (simp only [go_sem]; try omega))) only [go_sem, Nat.reduceAdd, Nat.reduceEqDiff, Nat.reduceLeDiff, Nat.reduceMul, Nat.reduceLT, reduceIte, Int.reduceToNat, w64_id, cast_succ]); (first | (with_reducible refine GR.drop ?_ ?_; (simp only [go_sem, and_self, and_true, true_and, implies_true, List.take_succ_cons, List.take_zero])) | refine GR.of ?_); refine ⟨?_, rfl⟩; (try with_reducible rfl)
          have := bad (.inr (by rw [hr, adjB_snoc, h6]; simp))
          simp [this]
        · repeat (first | (with_reducible first | refine SW.seq ?_ | refine SW.block ?_ | refine SW.rowC ?_ | refine SW.skip ?_ | refine SW.exit ?_ | intro _ | refine And.intro (by omega) ?_) | simp (config := { maxSteps := 1000000 }) (disch := (first | omega | (simp only [go_sem]; try omega))) only [go_sem, Nat.reduceAdd, Nat.reduceEqDiff, Nat.reduceLeDiff, Nat.reduceMul, Nat.reduceLT, reduceIte, Int.reduceToNat, w64_id, cast_succ])
          refine SLoop.next post.length (by simp) ⟨pre ++ [x], post, by simp [hq], rfl, ?_, rfl, ?_, ?_⟩
          · simp [go_sem]
          · rw [List.all_append, ha]; simp [h4]
          · rw [hr, adjB_snoc, ← hr, hs]; simp [Ne.symm h6]
      · have : pre = [] := by
          cases pre with
          | nil => rfl
          | cons y pre => exfalso; simp at h5
        subst this
        repeat (first | (with_reducible first | refine SW.seq ?_ | refine SW.block ?_ | refine SW.rowC ?_ | refine SW.skip ?_ | refine SW.exit ?_ | intro _ | refine And.intro (by omega) ?_) | simp (config := { maxSteps := 1000000 }) (disch := (first | omega | (simp only [go_sem]; try omega))) only [go_sem, Nat.reduceAdd, Nat.reduceEqDiff, Nat.reduceLeDiff, Nat.reduceMul, Nat.reduceLT, reduceIte, Int.reduceToNat, w64_id, cast_succ])
        (first | refine SW.condD rfl (fun h6 => ?_) (fun h6 => ?_) | refine SW.condN rfl (fun h6 => ?_) (fun h6 => ?_) | refine SW.condNB rfl (fun h6 => ?_) (fun h6 => ?_) | refine SW.condB rfl (fun h6 => ?_) (fun h6 => ?_))
        · cases h6
        repeat (first | (with_reducible first | refine SW.seq ?_ | refine SW.block ?_ | refine SW.rowC ?_ | refine SW.skip ?_ | refine SW.exit ?_ | intro _ | refine And.intro (by omega) ?_) | simp (config := { maxSteps := 1000000 }) (disch := (first | omega | (simp only [go_sem]; try omega))) only [go_sem, Nat.reduceAdd, Nat.reduceEqDiff, Nat.reduceLeDiff, Nat.reduceMul, Nat.reduceLT, reduceIte, Int.reduceToNat, w64_id, cast_succ])
        refine SLoop.next post.length (by simp) ⟨[] ++ [x], post, by simp [hq], rfl, ?_, rfl, ?_, rfl⟩
        · simp [go_sem]
        · simp [h4]
    · repeat (first | (with_reducible first | refine SW.seq ?_ | refine SW.block ?_ | refine SW.rowC ?_ | refine SW.skip ?_ | refine SW.exit ?_ | intro _ | refine And.intro (by omega) ?_) | simp (config := { maxSteps := 1000000 }) (disch := (first | omega | (simp only [go_sem]; try omega))) only [go_sem, Nat.reduceAdd, Nat.reduceEqDiff, Nat.reduceLeDiff, Nat.reduceMul, Nat.reduceLT, reduceIte, Int.reduceToNat, w64_id, cast_succ])
      (first | refine SW.condD rfl (fun h6 => ?_) (fun h6 => ?_) | refine SW.condN rfl (fun h6 => ?_) (fun h6 => ?_) | refine SW.condNB rfl (fun h6 => ?_) (fun h6 => ?_) | refine SW.condB rfl (fun h6 => ?_) (fun h6 => ?_))
      · repeat (first | (with_reducible first | refine SW.seq ?_ | refine SW.block ?_ | refine SW.rowC ?_ | refine SW.skip ?_ | refine SW.exit ?_ | intro _ | refine And.intro (by omega) ?_) | simp (config := { maxSteps := 1000000 }) (disch := (first | omega | (simp only [go_sem]; try omega))) only [go_sem, Nat.reduceAdd, Nat.reduceEqDiff, Nat.reduceLeDiff, Nat.reduceMul, Nat.reduceLT, reduceIte, Int.reduceToNat, w64_id, cast_succ])
        refine SW.ret ?_; (try simp only [go_sem]); (first | refine FunPost.one ?_ | refine FunPost.two ?_ | refine FunPost.three ?_); (try simp (config := { maxSteps := 1000000 }) (disch := (first | omega | (simp only [go_sem]; try omega))) only [go_sem, Nat.reduceAdd, Nat.reduceEqDiff, Nat.reduceLeDiff, Nat.reduceMul, Nat.reduceLT, reduceIte, Int.reduceToNat, w64_id, cast_succ]); (first | (with_reducible refine GR.drop ?_ ?_; (simp only [go_sem, and_self, and_true, true_and, implies_true, List.take_succ_cons, List.take_zero])) | refine GR.of ?_); refine ⟨?_, rfl⟩; (try with_reducible rfl)
        have := bad (.inl h4)
        simp [this]
      · cases h6
  · obtain ⟨rfl, rfl⟩ := nilOf hq (by omega)
    have hpk : packB n pre k lam = (pairsL n pre).all (fun c => !decide (lam < c)) := by
      rw [packB, ha, hs, decide_eq_true (show 0 < lam by omega)]; rfl
    have hpn := l10Pairs_new n pre (by omega) (by omega) _ p hp
    rw [hpk]
    generalize pairsL n pre = L at *
    repeat (first | (with_reducible first | refine SW.seq ?_ | refine SW.block ?_ | refine SW.rowC ?_ | refine SW.skip ?_ | refine SW.exit ?_ | intro _ | refine And.intro (by omega) ?_) | simp (config := { maxSteps := 1000000 }) (disch := (first | omega | (simp only [go_sem]; try omega))) only [go_sem, Nat.reduceAdd, Nat.reduceEqDiff, Nat.reduceLeDiff, Nat.reduceMul, Nat.reduceLT, reduceIte, Int.reduceToNat, w64_id, cast_succ])
    refine hpn.mono ?_
    rintro r H2 ⟨rfl, rfl⟩
    repeat (first | (with_reducible first | refine SW.seq ?_ | refine SW.block ?_ | refine SW.rowC ?_ | refine SW.skip ?_ | refine SW.exit ?_ | intro _ | refine And.intro (by omega) ?_) | simp (config := { maxSteps := 1000000 }) (disch := (first | omega | (simp only [go_sem]; try omega))) only [go_sem, Nat.reduceAdd, Nat.reduceEqDiff, Nat.reduceLeDiff, Nat.reduceMul, Nat.reduceLT, reduceIte, Int.reduceToNat, w64_id, cast_succ])
    refine SW.loopE (fun E0 H0 q E' H' => ∃ (p1 p2 : List Int), L = p1 ++ p2 ∧ q = p2.length ∧ E' = aput E0 9 (I p1.length) ∧ H' = H0 ∧ p1.all (fun c => !decide (lam < c)) = true) L.length ⟨[], L, rfl, rfl, rfl, rfl, rfl⟩ ?_
    rintro q E' H' ⟨p1, p2, hq2, rfl, rfl, rfl, hal⟩
    simp (config := { maxSteps := 1000000 }) (disch := (first | omega | (simp only [go_sem]; try omega))) only [go_sem, Nat.reduceAdd, Nat.reduceEqDiff, Nat.reduceLeDiff, Nat.reduceMul, Nat.reduceLT, reduceIte, Int.reduceToNat, w64_id, cast_succ]
    repeat (first | (with_reducible first | refine SW.seq ?_ | refine SW.block ?_ | refine SW.rowC ?_ | refine SW.skip ?_ | refine SW.exit ?_ | intro _ | refine And.intro (by omega) ?_) | simp (config := { maxSteps := 1000000 }) (disch := (first | omega | (simp only [go_sem]; try omega))) only [go_sem, Nat.reduceAdd, Nat.reduceEqDiff, Nat.reduceLeDiff, Nat.reduceMul, Nat.reduceLT, reduceIte, Int.reduceToNat, w64_id, cast_succ])
    (first | refine SW.condD rfl (fun h7 => ?_) (fun h7 => ?_) | refine SW.condN rfl (fun h7 => ?_) (fun h7 => ?_) | refine SW.condNB rfl (fun h7 => ?_) (fun h7 => ?_) | refine SW.condB rfl (fun h7 => ?_) (fun h7 => ?_))
    · obtain ⟨c, p2, rfl, hg, -⟩ := consOf (d := 0) hq2 (by omega)
      repeat (first | (with_reducible first | refine SW.seq ?_ | refine SW.block ?_ | refine SW.rowC ?_ | refine SW.skip ?_ | refine SW.exit ?_ | intro _ | refine And.intro (by omega) ?_) | simp (config := { maxSteps := 1000000 }) (disch := (first | omega | (simp only [go_sem]; try omega))) only [go_sem, Nat.reduceAdd, Nat.reduceEqDiff, Nat.reduceLeDiff, Nat.reduceMul, Nat.reduceLT, reduceIte, Int.reduceToNat, w64_id, cast_succ, hg])
      (first | refine SW.condD rfl (fun h8 => ?_) (fun h8 => ?_) | refine SW.condN rfl (fun h8 => ?_) (fun h8 => ?_) | refine SW.condNB rfl (fun h8 => ?_) (fun h8 => ?_) | refine SW.condB rfl (fun h8 => ?_) (fun h8 => ?_))
      · repeat (first | (with_reducible first | refine SW.seq ?_ | refine SW.block ?_ | refine SW.rowC ?_ | refine SW.skip ?_ | refine SW.exit ?_ | intro _ | refine And.intro (by omega) ?_) | simp (config := { maxSteps := 1000000 }) (disch := (first | omega | (simp only [go_sem]; try omega))) only [go_sem, Nat.reduceAdd, Nat.reduceEqDiff, Nat.reduceLeDiff, Nat.reduceMul, Nat.reduceLT, reduceIte, Int.reduceToNat, w64_id, cast_succ])
        refine SW.ret ?_; (try simp only [go_sem]); (first | refine FunPost.one ?_ | refine FunPost.two ?_ | refine FunPost.three ?_); (try simp (config := { maxSteps := 1000000 }) (disch := (first | omega | (simp only [go_sem]; try omega))) only [go_sem, Nat.reduceAdd, Nat.reduceEqDiff, Nat.reduceLeDiff, Nat.reduceMul, Nat.reduceLT, reduceIte, Int.reduceToNat, w64_id, cast_succ]); (first | (with_reducible refine GR.drop ?_ ?_; (simp only [go_sem, and_self, and_true, true_and, implies_true, List.take_succ_cons, List.take_zero])) | refine GR.of ?_); refine ⟨?_, rfl⟩; (try with_reducible rfl)
        rw [hq2, List.all_append]; simp [h8]
      · repeat (first | (with_reducible first | refine SW.seq ?_ | refine SW.block ?_ | refine SW.rowC ?_ | refine SW.skip ?_ | refine SW.exit ?_ | intro _ | refine And.intro (by omega) ?_) | simp (config := { maxSteps := 1000000 }) (disch := (first | omega | (simp only [go_sem]; try omega))) only [go_sem, Nat.reduceAdd, Nat.reduceEqDiff, Nat.reduceLeDiff, Nat.reduceMul, Nat.reduceLT, reduceIte, Int.reduceToNat, w64_id, cast_succ])
        refine SLoop.next p2.length (by simp) ⟨p1 ++ [c], p2, by simp [hq2], rfl, ?_, rfl, ?_⟩
        · simp [go_sem]
        · rw [List.all_append, hal]; simp; omega
    · obtain ⟨rfl, rfl⟩ := nilOf hq2 (by omega)
      repeat (first | (with_reducible first | refine SW.seq ?_ | refine SW.block ?_ | refine SW.rowC ?_ | refine SW.skip ?_ | refine SW.exit ?_ | intro _ | refine And.intro (by omega) ?_) | simp (config := { maxSteps := 1000000 }) (disch := (first | omega | (simp only [go_sem]; try omega))) only [go_sem, Nat.reduceAdd, Nat.reduceEqDiff, Nat.reduceLeDiff, Nat.reduceMul, Nat.reduceLT, reduceIte, Int.reduceToNat, w64_id, cast_succ])
      refine SW.ret ?_; (try simp only [go_sem]); (first | refine FunPost.one ?_ | refine FunPost.two ?_ | refine FunPost.three ?_); (try simp (config := { maxSteps := 1000000 }) (disch := (first | omega | (simp only [go_sem]; try omega))) only [go_sem, Nat.reduceAdd, Nat.reduceEqDiff, Nat.reduceLeDiff, Nat.reduceMul, Nat.reduceLT, reduceIte, Int.reduceToNat, w64_id, cast_succ]); (first | (with_reducible refine GR.drop ?_ ?_; (simp only [go_sem, and_self, and_true, true_and, implies_true, List.take_succ_cons, List.take_zero])) | refine GR.of ?_); refine ⟨?_, rfl⟩; (try with_reducible rfl)
      rw [hal]

theorem specIsPacking_fn (v : Int) (xss : List (List Int)) (k lam : Int) (hx : ∀ xs ∈ xss, ∀ x ∈ xs, (Lit.int .i64 x).wf = true) : PFn Try.prog f_spec_IsPacking [.agg [I v, ilSS xss], I k, I lam] (Bv (designB v xss && packB v.toNat xss k lam)) := by
  intro H; refine ACalls.introB s_spec_IsPacking (by simp) ?_; intro hB hA; unfold c_spec_IsPacking; simp (config := { maxSteps := 1000000 }) (disch := (first | omega | (simp only [go_sem]; try omega))) only [go_sem, Nat.reduceAdd, Nat.reduceEqDiff, Nat.reduceLeDiff, Nat.reduceMul, Nat.reduceLT, reduceIte, Int.reduceToNat, w64_id, cast_succ]
  repeat (first | (with_reducible first | refine SW.seq ?_ | refine SW.block ?_ | refine SW.rowC ?_ | refine SW.skip ?_ | refine SW.exit ?_ | intro _ | refine And.intro (by omega) ?_) | simp (config := { maxSteps := 1000000 }) (disch := (first | omega | (simp only [go_sem]; try omega))) only [go_sem, Nat.reduceAdd, Nat.reduceEqDiff, Nat.reduceLeDiff, Nat.reduceMul, Nat.reduceLT, reduceIte, Int.reduceToNat, w64_id, cast_succ])
  refine ACalls.fn (l28Packing_ok _ H.length v xss k lam hx (by simp)) ?_
  repeat (first | (with_reducible first | refine SW.seq ?_ | refine SW.block ?_ | refine SW.rowC ?_ | refine SW.skip ?_ | refine SW.exit ?_ | intro _ | refine And.intro (by omega) ?_) | simp (config := { maxSteps := 1000000 }) (disch := (first | omega | (simp only [go_sem]; try omega))) only [go_sem, Nat.reduceAdd, Nat.reduceEqDiff, Nat.reduceLeDiff, Nat.reduceMul, Nat.reduceLT, reduceIte, Int.reduceToNat, w64_id, cast_succ])
  refine SW.ret ?_; (try simp only [go_sem]); (first | refine FunPost.one ?_ | refine FunPost.two ?_ | refine FunPost.three ?_); (try simp (config := { maxSteps := 1000000 }) (disch := (first | omega | (simp only [go_sem]; try omega))) only [go_sem, Nat.reduceAdd, Nat.reduceEqDiff, Nat.reduceLeDiff, Nat.reduceMul, Nat.reduceLT, reduceIte, Int.reduceToNat, w64_id, cast_succ]); (first | (with_reducible refine GR.drop ?_ ?_; (simp only [go_sem, and_self, and_true, true_and, implies_true, List.take_succ_cons, List.take_zero])) | refine GR.of ?_); refine ⟨?_, rfl⟩; (try with_reducible rfl)

theorem szDesign_ok (H : List Blk) (n : Int) (a : AV) (xss : List (List Int)) (left : Int) (ca : a.cell1 = true) (ha : RdSS H a xss) (h0 : -1 ≤ left) (h1 : left ≤ 4611686018427387904) :
    ACalls Try.prog f_laws_szDesign [.agg [I n, a], I left] H (fun r H' => (∃ z : Int, r = I z ∧ -1 ≤ z ∧ z ≤ left ∧ (0 ≤ z → z = left - xss.length - total xss)) ∧ H' = H) := by
  refine ACalls.introB s_laws_szDesign (by simp) ?_; intro hB hA; unfold c_laws_szDesign; simp (config := { maxSteps := 1000000 }) (disch := (first | omega | (simp only [go_sem]; try omega))) only [go_sem, Nat.reduceAdd, Nat.reduceEqDiff, Nat.reduceLeDiff, Nat.reduceMul, Nat.reduceLT, reduceIte, Int.reduceToNat, w64_id, cast_succ]
  repeat (first | (with_reducible first | refine SW.seq ?_ | refine SW.block ?_ | refine SW.rowC ?_ | refine SW.skip ?_ | refine SW.exit ?_ | intro _ | refine And.intro (by omega) ?_) | simp (config := { maxSteps := 1000000 }) (disch := (first | omega | (simp only [go_sem]; try omega))) only [go_sem, Nat.reduceAdd, Nat.reduceEqDiff, Nat.reduceLeDiff, Nat.reduceMul, Nat.reduceLT, reduceIte, Int.reduceToNat, w64_id, cast_succ, ca])
  refine (szInt64SS_ok _ a xss left (ha.append _) h0 h1).mono ?_
  rintro r H' ⟨⟨z, rfl, g1, g2, g3⟩, rfl⟩
  repeat (first | (with_reducible first | refine SW.seq ?_ | refine SW.block ?_ | refine SW.rowC ?_ | refine SW.skip ?_ | refine SW.exit ?_ | intro _ | refine And.intro (by omega) ?_) | simp (config := { maxSteps := 1000000 }) (disch := (first | omega | (simp only [go_sem]; try omega))) only [go_sem, Nat.reduceAdd, Nat.reduceEqDiff, Nat.reduceLeDiff, Nat.reduceMul, Nat.reduceLT, reduceIte, Int.reduceToNat, w64_id, cast_succ])
  (first | refine SW.condD rfl (fun h => ?_) (fun h => ?_) | refine SW.condN rfl (fun h => ?_) (fun h => ?_) | refine SW.condNB rfl (fun h => ?_) (fun h => ?_) | refine SW.condB rfl (fun h => ?_) (fun h => ?_))
  · repeat (first | (with_reducible first | refine SW.seq ?_ | refine SW.block ?_ | refine SW.rowC ?_ | refine SW.skip ?_ | refine SW.exit ?_ | intro _ | refine And.intro (by omega) ?_) | simp (config := { maxSteps := 1000000 }) (disch := (first | omega | (simp only [go_sem]; try omega))) only [go_sem, Nat.reduceAdd, Nat.reduceEqDiff, Nat.reduceLeDiff, Nat.reduceMul, Nat.reduceLT, reduceIte, Int.reduceToNat, w64_id, cast_succ])
    refine SW.ret ?_; (try simp only [go_sem]); (first | refine FunPost.one ?_ | refine FunPost.two ?_ | refine FunPost.three ?_); (try simp (config := { maxSteps := 1000000 }) (disch := (first | omega | (simp only [go_sem]; try omega))) only [go_sem, Nat.reduceAdd, Nat.reduceEqDiff, Nat.reduceLeDiff, Nat.reduceMul, Nat.reduceLT, reduceIte, Int.reduceToNat, w64_id, cast_succ]); (first | (with_reducible refine GR.drop ?_ ?_; (simp only [go_sem, and_self, and_true, true_and, implies_true, List.take_succ_cons, List.take_zero])) | refine GR.of ?_); refine ⟨?_, rfl⟩; (try with_reducible rfl)
    exact ⟨-1, rfl, by omega, by omega, fun h => by omega⟩
  · repeat (first | (with_reducible first | refine SW.seq ?_ | refine SW.block ?_ | refine SW.rowC ?_ | refine SW.skip ?_ | refine SW.exit ?_ | intro _ | refine And.intro (by omega) ?_) | simp (config := { maxSteps := 1000000 }) (disch := (first | omega | (simp only [go_sem]; try omega))) only [go_sem, Nat.reduceAdd, Nat.reduceEqDiff, Nat.reduceLeDiff, Nat.reduceMul, Nat.reduceLT, reduceIte, Int.reduceToNat, w64_id, cast_succ])
    refine SW.ret ?_; (try simp only [go_sem]); (first | refine FunPost.one ?_ | refine FunPost.two ?_ | refine FunPost.three ?_); (try simp (config := { maxSteps := 1000000 }) (disch := (first | omega | (simp only [go_sem]; try omega))) only [go_sem, Nat.reduceAdd, Nat.reduceEqDiff, Nat.reduceLeDiff, Nat.reduceMul, Nat.reduceLT, reduceIte, Int.reduceToNat, w64_id, cast_succ]); (first | (with_reducible refine GR.drop ?_ ?_; (simp only [go_sem, and_self, and_true, true_and, implies_true, List.take_succ_cons, List.take_zero])) | refine GR.of ?_); refine ⟨?_, rfl⟩; (try with_reducible rfl)
    exact ⟨z, rfl, g1, g2, g3⟩

theorem toDesign_fn (n : Int) (xss : List (List Int)) (hs : xss.length ≤ 1073741824) (hs' : ∀ xs ∈ xss, xs.length ≤ 1073741824) : PFn Try.prog f_laws_toDesign [.agg [I n, ilSS xss]] (.agg [I n, ilSS xss]) := by
  intro H; refine ACalls.introB s_laws_toDesign (by simp) ?_; intro hB hA; unfold c_laws_toDesign; simp (config := { maxSteps := 1000000 }) (disch := (first | omega | (simp only [go_sem]; try omega))) only [go_sem, Nat.reduceAdd, Nat.reduceEqDiff, Nat.reduceLeDiff, Nat.reduceMul, Nat.reduceLT, reduceIte, Int.reduceToNat, w64_id, cast_succ]
  repeat (first | (with_reducible first | refine SW.seq ?_ | refine SW.block ?_ | refine SW.rowC ?_ | refine SW.skip ?_ | refine SW.exit ?_ | refine PFn.use (toInt64SS_fn xss hs hs') ?_ | refine PFn.useq (toInt64SS_fn xss hs hs') ?_ | intro _ | refine And.intro (by omega) ?_) | simp (config := { maxSteps := 1000000 }) (disch := (first | omega | (simp only [go_sem]; try omega))) only [go_sem, Nat.reduceAdd, Nat.reduceEqDiff, Nat.reduceLeDiff, Nat.reduceMul, Nat.reduceLT, reduceIte, Int.reduceToNat, w64_id, cast_succ])
  refine SW.ret ?_
  refine FunPost.cell (cs := [I n, ilSS xss]) (by simp [go_sem, acells]) ?_
  refine GR.drop ?_ ?_
  · (simp only [go_sem, Nat.reduceAdd, Nat.reduceEqDiff, reduceIte, go_sem, and_self, and_true, true_and, implies_true, List.take_succ_cons, List.take_zero, and_true, true_and]; try omega)
  · exact ⟨rfl, rfl⟩
theorem eqDesign_fn2 (n : Int) (xss : List (List Int)) : PFn Try.prog f_laws_eqDesign [.agg [I n, ilSS xss], .agg [I n, ilSS xss]] (Bv true) := by
  intro H; refine ACalls.introB s_laws_eqDesign (by simp) ?_; intro hB hA; unfold c_laws_eqDesign; simp (config := { maxSteps := 1000000 }) (disch := (first | omega | (simp only [go_sem]; try omega))) only [go_sem, Nat.reduceAdd, Nat.reduceEqDiff, Nat.reduceLeDiff, Nat.reduceMul, Nat.reduceLT, reduceIte, Int.reduceToNat, w64_id, cast_succ]
  repeat (first | (with_reducible first | refine SW.seq ?_ | refine SW.block ?_ | refine SW.rowC ?_ | refine SW.skip ?_ | refine SW.exit ?_ | refine PFn.use (eqInt64SS_fn2 xss) ?_ | refine PFn.useq (eqInt64SS_fn2 xss) ?_ | intro _ | refine And.intro (by omega) ?_) | simp (config := { maxSteps := 1000000 }) (disch := (first | omega | (simp only [go_sem]; try omega))) only [go_sem, Nat.reduceAdd, Nat.reduceEqDiff, Nat.reduceLeDiff, Nat.reduceMul, Nat.reduceLT, reduceIte, Int.reduceToNat, w64_id, cast_succ])
  refine SW.condF rfl ?_
  repeat (first | (with_reducible first | refine SW.seq ?_ | refine SW.block ?_ | refine SW.rowC ?_ | refine SW.skip ?_ | refine SW.exit ?_ | refine PFn.use (eqInt64SS_fn2 xss) ?_ | refine PFn.useq (eqInt64SS_fn2 xss) ?_ | intro _ | refine And.intro (by omega) ?_) | simp (config := { maxSteps := 1000000 }) (disch := (first | omega | (simp only [go_sem]; try omega))) only [go_sem, Nat.reduceAdd, Nat.reduceEqDiff, Nat.reduceLeDiff, Nat.reduceMul, Nat.reduceLT, reduceIte, Int.reduceToNat, w64_id, cast_succ])
  refine SW.condF rfl ?_
  repeat (first | (with_reducible first | refine SW.seq ?_ | refine SW.block ?_ | refine SW.rowC ?_ | refine SW.skip ?_ | refine SW.exit ?_ | intro _ | refine And.intro (by omega) ?_) | simp (config := { maxSteps := 1000000 }) (disch := (first | omega | (simp only [go_sem]; try omega))) only [go_sem, Nat.reduceAdd, Nat.reduceEqDiff, Nat.reduceLeDiff, Nat.reduceMul, Nat.reduceLT, reduceIte, Int.reduceToNat, w64_id, cast_succ])
  refine SW.ret ?_; (try simp only [go_sem]); (first | refine FunPost.one ?_ | refine FunPost.two ?_ | refine FunPost.three ?_); (try simp (config := { maxSteps := 1000000 }) (disch := (first | omega | (simp only [go_sem]; try omega))) only [go_sem, Nat.reduceAdd, Nat.reduceEqDiff, Nat.reduceLeDiff, Nat.reduceMul, Nat.reduceLT, reduceIte, Int.reduceToNat, w64_id, cast_succ]); (first | (with_reducible refine GR.drop ?_ ?_; (simp only [go_sem, and_self, and_true, true_and, implies_true, List.take_succ_cons, List.take_zero])) | refine GR.of ?_); refine ⟨?_, rfl⟩; (try with_reducible rfl)

theorem lawIsPacking_ok (H : List Blk) (n : Int) (xss : List (List Int)) (k lam : Int) (hx : ∀ xs ∈ xss, ∀ x ∈ xs, (Lit.int .i64 x).wf = true) : ACalls Try.prog f_laws_FnExactIsPacking [.agg [I n, ilSS xss], I k, I lam] H (fun r _ => r = Bv true) := by
  refine ACalls.introB s_laws_FnExactIsPacking (by simp) ?_; intro hB hA; unfold c_laws_FnExactIsPacking; simp (config := { maxSteps := 1000000 }) (disch := (first | omega | (simp only [go_sem]; try omega))) only [go_sem, Nat.reduceAdd, Nat.reduceEqDiff, Nat.reduceLeDiff, Nat.reduceMul, Nat.reduceLT, reduceIte, Int.reduceToNat, w64_id, cast_succ]
  repeat (first | (with_reducible first | refine SW.seq ?_ | refine SW.block ?_ | refine SW.rowC ?_ | refine SW.skip ?_ | refine SW.exit ?_ | intro _ | refine And.intro (by omega) ?_) | simp (config := { maxSteps := 1000000 }) (disch := (first | omega | (simp only [go_sem]; try omega))) only [go_sem, Nat.reduceAdd, Nat.reduceEqDiff, Nat.reduceLeDiff, Nat.reduceMul, Nat.reduceLT, reduceIte, Int.reduceToNat, w64_id, cast_succ])
  refine (szDesign_ok _ n _ xss _ rfl (rd_ilSS _ _) (by omega) (by omega)).mono ?_
  rintro r H' ⟨⟨z, rfl, g1, g2, g3⟩, rfl⟩
  repeat (first | (with_reducible first | refine SW.seq ?_ | refine SW.block ?_ | refine SW.rowC ?_ | refine SW.skip ?_ | refine SW.exit ?_ | intro _ | refine And.intro (by omega) ?_) | simp (config := { maxSteps := 1000000 }) (disch := (first | omega | (simp only [go_sem]; try omega))) only [go_sem, Nat.reduceAdd, Nat.reduceEqDiff, Nat.reduceLeDiff, Nat.reduceMul, Nat.reduceLT, reduceIte, Int.reduceToNat, w64_id, cast_succ])
  (first | refine SW.condD rfl (fun h2 => ?_) (fun h2 => ?_) | refine SW.condN rfl (fun h2 => ?_) (fun h2 => ?_) | refine SW.condNB rfl (fun h2 => ?_) (fun h2 => ?_) | refine SW.condB rfl (fun h2 => ?_) (fun h2 => ?_))
  · repeat (first | (with_reducible first | refine SW.seq ?_ | refine SW.block ?_ | refine SW.rowC ?_ | refine SW.skip ?_ | refine SW.exit ?_ | intro _ | refine And.intro (by omega) ?_) | simp (config := { maxSteps := 1000000 }) (disch := (first | omega | (simp only [go_sem]; try omega))) only [go_sem, Nat.reduceAdd, Nat.reduceEqDiff, Nat.reduceLeDiff, Nat.reduceMul, Nat.reduceLT, reduceIte, Int.reduceToNat, w64_id, cast_succ])
    refine SW.ret ?_; (try simp only [go_sem]); (first | refine FunPost.one ?_ | refine FunPost.two ?_ | refine FunPost.three ?_); (try simp (config := { maxSteps := 1000000 }) (disch := (first | omega | (simp only [go_sem]; try omega))) only [go_sem, Nat.reduceAdd, Nat.reduceEqDiff, Nat.reduceLeDiff, Nat.reduceMul, Nat.reduceLT, reduceIte, Int.reduceToNat, w64_id, cast_succ])
    exact GR.of rfl
  have hsx := small_rows (by omega) (g3 (by omega)) (by omega)
  have t1 := toDesign_fn n xss hsx.1 hsx.2
  repeat (first | (with_reducible first | refine SW.seq ?_ | refine SW.block ?_ | refine SW.rowC ?_ | refine SW.skip ?_ | refine SW.exit ?_ | refine PFn.use (t1) ?_ | refine PFn.useq (t1) ?_ | refine PFn.use (specIsPacking_fn n xss k lam hx) ?_ | refine PFn.useq (specIsPacking_fn n xss k lam hx) ?_ | refine PFn.use (implIsPacking_fn n xss k lam) ?_ | refine PFn.useq (implIsPacking_fn n xss k lam) ?_ | intro _ | refine And.intro (by omega) ?_) | simp (config := { maxSteps := 1000000 }) (disch := (first | omega | (simp only [go_sem]; try omega))) only [go_sem, Nat.reduceAdd, Nat.reduceEqDiff, Nat.reduceLeDiff, Nat.reduceMul, Nat.reduceLT, reduceIte, Int.reduceToNat, w64_id, cast_succ])
  refine SW.condF (by simp [go_sem]) ?_
  repeat (first | (with_reducible first | refine SW.seq ?_ | refine SW.block ?_ | refine SW.rowC ?_ | refine SW.skip ?_ | refine SW.exit ?_ | refine PFn.use (t1) ?_ | refine PFn.useq (t1) ?_ | refine PFn.use (eqDesign_fn2 n xss) ?_ | refine PFn.useq (eqDesign_fn2 n xss) ?_ | intro _ | refine And.intro (by omega) ?_) | simp (config := { maxSteps := 1000000 }) (disch := (first | omega | (simp only [go_sem]; try omega))) only [go_sem, Nat.reduceAdd, Nat.reduceEqDiff, Nat.reduceLeDiff, Nat.reduceMul, Nat.reduceLT, reduceIte, Int.reduceToNat, w64_id, cast_succ])
  refine SW.condF rfl ?_
  repeat (first | (with_reducible first | refine SW.seq ?_ | refine SW.block ?_ | refine SW.rowC ?_ | refine SW.skip ?_ | refine SW.exit ?_ | intro _ | refine And.intro (by omega) ?_) | simp (config := { maxSteps := 1000000 }) (disch := (first | omega | (simp only [go_sem]; try omega))) only [go_sem, Nat.reduceAdd, Nat.reduceEqDiff, Nat.reduceLeDiff, Nat.reduceMul, Nat.reduceLT, reduceIte, Int.reduceToNat, w64_id, cast_succ])
  refine SW.ret ?_; (try simp only [go_sem]); (first | refine FunPost.one ?_ | refine FunPost.two ?_ | refine FunPost.three ?_); (try simp (config := { maxSteps := 1000000 }) (disch := (first | omega | (simp only [go_sem]; try omega))) only [go_sem, Nat.reduceAdd, Nat.reduceEqDiff, Nat.reduceLeDiff, Nat.reduceMul, Nat.reduceLT, reduceIte, Int.reduceToNat, w64_id, cast_succ])
  exact GR.of rfl
end Go.Proofs.Ytkpohapopokahaa
