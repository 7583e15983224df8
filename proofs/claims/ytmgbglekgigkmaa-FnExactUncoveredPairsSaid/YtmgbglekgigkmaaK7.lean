/- Exact covers: what is covered; IsCover; OptionsWith. -/
import Derived.Test.YtmgbglekgigkmaaProg
import Derived.KernelRfl
import Derived.Test.YtmgbglekgigkmaaK6
set_option linter.unusedSimpArgs false
set_option linter.unusedVariables false
set_option maxHeartbeats 4000000
namespace Go.Proofs.Ytmgbglekgigkmaa
open Go.Av

/-! The abstract code of functions, printed by program and tied to the program by the kernel. -/
/-- loop.example/g00920/laws.FnExactIsCover -/
abbrev f_laws_FnExactIsCover : Nat := 12
def c_laws_FnExactIsCover : SC :=
 .seq (.reg [
     ⟨(some 2), .box 30 (.tmp 0), none⟩,
     ⟨(some 4), .mv (.const (.bool false)), none⟩] [1, 2])
 (.seq (.seq (.reg [
     ⟨(some 10), .mv (.tmp 1), none⟩,
     ⟨(some 11), .len (.tmp 10), none⟩,
     ⟨(some 12), .bin .gtr (.tmp 11) (.const (.int .i64 1048576)), none⟩] [1, 2, 12])
 (.cond (.tmp 12)
  (.seq (.reg [
      ⟨(some 4), .mv (.const (.bool true)), none⟩] [4])
  (.ret))
  (.skip)))
 (.seq (.reg [
     ⟨(some 5), .mv (.const (.int .i64 1048576)), none⟩] [1, 2, 5])
 (.seq (.reg [
     ⟨(some 13), .load 2 true (.tmp 2), none⟩,
     ⟨(some 14), .mv (.tmp 5), none⟩,
     ⟨(some 15), .call 20 [(.tmp 13), (.tmp 14)], none⟩,
     ⟨(some 5), .mv (.tmp 15), none⟩] [1, 2, 5])
 (.seq (.seq (.reg [
     ⟨(some 16), .mv (.tmp 5), none⟩,
     ⟨(some 17), .bin .lss (.tmp 16) (.const (.int .i64 0)), none⟩] [1, 2, 17])
 (.cond (.tmp 17)
  (.seq (.reg [
      ⟨(some 4), .mv (.const (.bool true)), none⟩] [4])
  (.ret))
  (.skip)))
 (.seq (.reg [
     ⟨(some 18), .load 2 true (.tmp 2), none⟩,
     ⟨(some 19), .call 22 [(.tmp 18)], none⟩,
     ⟨(some 20), .mv (.tmp 1), none⟩,
     ⟨(some 21), .call 34 [(.tmp 20)], none⟩,
     ⟨(some 22), .call 49 [(.tmp 19), (.tmp 21)], none⟩,
     ⟨(some 6), .mv (.tmp 22), none⟩] [1, 2, 6])
 (.seq (.reg [
     ⟨(some 23), .load 2 true (.tmp 2), none⟩,
     ⟨(some 24), .call 22 [(.tmp 23)], none⟩,
     ⟨(some 7), .alloc 24 [(.int .i64 0), (.slice none 0 0)], none⟩,
     ⟨none, .store 2 (.tmp 7) (.tmp 24), none⟩] [1, 2, 6, 7])
 (.seq (.reg [
     ⟨(some 25), .mv (.tmp 1), none⟩,
     ⟨(some 26), .call 34 [(.tmp 25)], none⟩,
     ⟨(some 8), .mv (.tmp 26), none⟩] [1, 2, 6, 7, 8])
 (.seq (.reg [
     ⟨(some 27), .load 2 true (.tmp 7), none⟩,
     ⟨(some 28), .mv (.tmp 8), none⟩,
     ⟨(some 29), .call 50 [(.tmp 27), (.tmp 28)], none⟩,
     ⟨(some 9), .mv (.tmp 29), none⟩] [1, 2, 6, 7, 8, 9])
 (.seq (.seq (.reg [
     ⟨(some 30), .mv (.tmp 9), none⟩,
     ⟨(some 31), .mv (.tmp 6), none⟩,
     ⟨(some 32), .binb true (.tmp 30) (.tmp 31), none⟩] [1, 2, 7, 8, 32])
 (.cond (.tmp 32)
  (.seq (.reg [
      ⟨(some 4), .mv (.const (.bool false)), none⟩] [4])
  (.ret))
  (.skip)))
 (.seq (.seq (.reg [
     ⟨(some 33), .load 2 true (.tmp 7), none⟩,
     ⟨(some 34), .load 2 true (.tmp 2), none⟩,
     ⟨(some 35), .qcall 22 [(.tmp 34)], none⟩,
     ⟨(some 36), .qcall 17 [(.tmp 33), (.tmp 35)], none⟩,
     ⟨(some 37), .un .not (.tmp 36), none⟩] [1, 8, 37])
 (.cond (.tmp 37)
  (.seq (.reg [
      ⟨(some 4), .mv (.const (.bool false)), none⟩] [4])
  (.ret))
  (.skip)))
 (.seq (.seq (.reg [
     ⟨(some 38), .mv (.tmp 8), none⟩,
     ⟨(some 39), .mv (.tmp 1), none⟩,
     ⟨(some 40), .call 34 [(.tmp 39)], none⟩,
     ⟨(some 41), .call 36 [(.tmp 38), (.tmp 40)], none⟩,
     ⟨(some 42), .un .not (.tmp 41), none⟩] [42])
 (.cond (.tmp 42)
  (.seq (.reg [
      ⟨(some 4), .mv (.const (.bool false)), none⟩] [4])
  (.ret))
  (.skip)))
 (.seq (.reg [
     ⟨(some 4), .mv (.const (.bool true)), none⟩] [4])
 (.ret)))))))))))))
theorem s_laws_FnExactIsCover : stripF Try.prog 12 [[1, 2], [1, 2, 12], [4], [1, 2, 5], [1, 2, 5], [1, 2, 17], [4], [1, 2, 6], [1, 2, 6, 7], [1, 2, 6, 7, 8], [1, 2, 6, 7, 8, 9], [1, 2, 7, 8, 32], [4], [1, 8, 37], [4], [42], [4], [4]] = some (c_laws_FnExactIsCover, [.tmp 4], 43) := by kernel_rfl

/-- loop.example/g00920/spec.IsCover -/
abbrev f_spec_IsCover : Nat := 49
def c_spec_IsCover : SC :=
 .seq (.reg [
     ⟨(some 2), .box 24 (.tmp 0), none⟩,
     ⟨(some 4), .mv (.const (.bool false)), none⟩] [1, 2])
 (.seq (.seq (.reg [
     ⟨(some 10), .call 64 [(.tmp 2)], none⟩,
     ⟨(some 11), .un .not (.tmp 10), none⟩,
     ⟨(some 12), .mv (.tmp 11), none⟩,
     ⟨(some 13), .mv (.tmp 1), (some (12, false))⟩,
     ⟨(some 14), .faddr 1 (.tmp 2), (some (12, false))⟩,
     ⟨(some 15), .load 1 false (.tmp 14), (some (12, false))⟩,
     ⟨(some 16), .len (.tmp 15), (some (12, false))⟩,
     ⟨(some 17), .bin .sub (.tmp 16) (.const (.int .i64 1)), (some (12, false))⟩,
     ⟨(some 18), .call 100 [(.tmp 13), (.const (.int .i64 0)), (.tmp 17)], (some (12, false))⟩,
     ⟨(some 19), .un .not (.tmp 18), (some (12, false))⟩,
     ⟨(some 20), .pick (.tmp 12) (.const (.bool true)) (.tmp 19), none⟩] [1, 2, 20])
 (.cond (.tmp 20)
  (.seq (.reg [
      ⟨(some 4), .mv (.const (.bool false)), none⟩] [4])
  (.ret))
  (.skip)))
 (.seq (.reg [
     ⟨(some 21), .faddr 0 (.tmp 2), none⟩,
     ⟨(some 22), .load 1 false (.tmp 21), none⟩,
     ⟨(some 23), .mslice 2 8 (.int .i64 0) (.tmp 22) (.tmp 22), none⟩,
     ⟨(some 5), .mv (.tmp 23), none⟩] [1, 2, 5])
 (.seq (.seq (.reg [
     ⟨(some 6), .mv (.const (.int .i64 0)), none⟩] [1, 2, 5, 6])
 (.block 0 (.loop [1, 2, 5, 6]
   (.seq (.seq (.reg [
       ⟨(some 24), .mv (.tmp 6), none⟩,
       ⟨(some 25), .mv (.tmp 1), none⟩,
       ⟨(some 26), .len (.tmp 25), none⟩,
       ⟨(some 27), .bin .lss (.tmp 24) (.tmp 26), none⟩] [1, 2, 5, 6, 27])
   (.cond (.tmp 27)
    (.skip)
    (.exit 0)))
   (.seq (.block 1 (.seq (.reg [
        ⟨(some 30), .faddr 1 (.tmp 2), none⟩,
        ⟨(some 31), .load 1 false (.tmp 30), none⟩,
        ⟨(some 32), .mv (.tmp 1), none⟩,
        ⟨(some 33), .mv (.tmp 6), none⟩,
        ⟨(some 34), .iaddr 1 (.tmp 32) (.tmp 33), none⟩,
        ⟨(some 35), .load 1 false (.tmp 34), none⟩,
        ⟨(some 36), .iaddr 1 (.tmp 31) (.tmp 35), none⟩,
        ⟨(some 37), .load 1 false (.tmp 36), none⟩,
        ⟨(some 7), .mv (.tmp 37), none⟩] [1, 2, 5, 6, 7])
    (.seq (.reg [
        ⟨(some 8), .mv (.const (.int .i64 0)), none⟩] [1, 2, 5, 6, 7, 8])
    (.block 2 (.loop [1, 2, 5, 6, 7, 8]
      (.seq (.seq (.reg [
          ⟨(some 38), .mv (.tmp 8), none⟩,
          ⟨(some 39), .mv (.tmp 7), none⟩,
          ⟨(some 40), .len (.tmp 39), none⟩,
          ⟨(some 41), .bin .lss (.tmp 38) (.tmp 40), none⟩] [1, 2, 5, 6, 7, 8, 41])
      (.cond (.tmp 41)
       (.skip)
       (.exit 2)))
      (.seq (.block 3 (.reg [
           ⟨(some 44), .mv (.tmp 5), none⟩,
           ⟨(some 45), .mv (.tmp 7), none⟩,
           ⟨(some 46), .mv (.tmp 8), none⟩,
           ⟨(some 47), .iaddr 1 (.tmp 45) (.tmp 46), none⟩,
           ⟨(some 48), .load 1 false (.tmp 47), none⟩,
           ⟨(some 49), .iaddr 1 (.tmp 44) (.tmp 48), none⟩,
           ⟨(some 50), .load 1 false (.tmp 49), none⟩,
           ⟨(some 51), .bin .add (.tmp 50) (.const (.int .i64 1)), none⟩,
           ⟨(some 52), .iaddr 1 (.tmp 44) (.tmp 48), none⟩,
           ⟨none, .store 1 (.tmp 52) (.tmp 51), none⟩] [1, 2, 5, 6, 7, 8]))
      (.reg [
          ⟨(some 42), .mv (.tmp 8), none⟩,
          ⟨(some 43), .bin .add (.tmp 42) (.const (.int .i64 1)), none⟩,
          ⟨(some 8), .mv (.tmp 43), none⟩] [1, 2, 5, 6, 7, 8]))))))))
   (.reg [
       ⟨(some 28), .mv (.tmp 6), none⟩,
       ⟨(some 29), .bin .add (.tmp 28) (.const (.int .i64 1)), none⟩,
       ⟨(some 6), .mv (.tmp 29), none⟩] [1, 2, 5, 6]))))))
 (.seq (.seq (.reg [
     ⟨(some 9), .mv (.const (.int .i64 0)), none⟩] [5, 9])
 (.block 4 (.loop [5, 9]
   (.seq (.seq (.reg [
       ⟨(some 53), .mv (.tmp 9), none⟩,
       ⟨(some 54), .mv (.tmp 5), none⟩,
       ⟨(some 55), .len (.tmp 54), none⟩,
       ⟨(some 56), .bin .lss (.tmp 53) (.tmp 55), none⟩] [5, 9, 56])
   (.cond (.tmp 56)
    (.skip)
    (.exit 4)))
   (.seq (.block 5 (.seq (.reg [
        ⟨(some 59), .mv (.tmp 5), none⟩,
        ⟨(some 60), .mv (.tmp 9), none⟩,
        ⟨(some 61), .iaddr 1 (.tmp 59) (.tmp 60), none⟩,
        ⟨(some 62), .load 1 false (.tmp 61), none⟩,
        ⟨(some 63), .bin .neq (.tmp 62) (.const (.int .i64 1)), none⟩] [5, 9, 63])
    (.cond (.tmp 63)
     (.seq (.reg [
         ⟨(some 4), .mv (.const (.bool false)), none⟩] [4])
     (.ret))
     (.skip))))
   (.reg [
       ⟨(some 57), .mv (.tmp 9), none⟩,
       ⟨(some 58), .bin .add (.tmp 57) (.const (.int .i64 1)), none⟩,
       ⟨(some 9), .mv (.tmp 58), none⟩] [5, 9]))))))
 (.seq (.reg [
     ⟨(some 4), .mv (.const (.bool true)), none⟩] [4])
 (.ret))))))
theorem s_spec_IsCover : stripF Try.prog 49 [[1, 2], [1, 2, 20], [4], [1, 2, 5], [1, 2, 5, 6], [1, 2, 5, 6], [1, 2, 5, 6, 27], [1, 2, 5, 6, 7], [1, 2, 5, 6, 7, 8], [1, 2, 5, 6, 7, 8], [1, 2, 5, 6, 7, 8, 41], [1, 2, 5, 6, 7, 8], [1, 2, 5, 6, 7, 8], [1, 2, 5, 6], [5, 9], [5, 9], [5, 9, 56], [5, 9, 63], [4], [5, 9], [4]] = some (c_spec_IsCover, [.tmp 4], 64) := by kernel_rfl

/-- loop.example/g00920/impl.IsCover -/
abbrev f_impl_IsCover : Nat := 50
def c_impl_IsCover : SC :=
 .seq (.reg [
     ⟨(some 2), .box 24 (.tmp 0), none⟩,
     ⟨(some 4), .mv (.const (.bool false)), none⟩] [1, 2])
 (.seq (.seq (.reg [
     ⟨(some 7), .load 2 true (.tmp 2), none⟩,
     ⟨(some 8), .call 25 [(.tmp 7)], none⟩,
     ⟨(some 9), .un .not (.tmp 8), none⟩,
     ⟨(some 10), .mv (.tmp 9), none⟩,
     ⟨(some 11), .mv (.tmp 1), (some (10, false))⟩,
     ⟨(some 12), .faddr 1 (.tmp 2), (some (10, false))⟩,
     ⟨(some 13), .load 1 false (.tmp 12), (some (10, false))⟩,
     ⟨(some 14), .call 101 [(.tmp 13)], (some (10, false))⟩,
     ⟨(some 15), .call 67 [(.tmp 11), (.tmp 14)], (some (10, false))⟩,
     ⟨(some 16), .un .not (.tmp 15), (some (10, false))⟩,
     ⟨(some 17), .pick (.tmp 10) (.const (.bool true)) (.tmp 16), none⟩] [1, 2, 17])
 (.cond (.tmp 17)
  (.seq (.reg [
      ⟨(some 4), .mv (.const (.bool false)), none⟩] [4])
  (.ret))
  (.skip)))
 (.seq (.reg [
     ⟨(some 19), .load 2 true (.tmp 2), none⟩,
     ⟨(some 20), .mv (.tmp 1), none⟩,
     ⟨(some 21), .call 102 [(.tmp 19), (.tmp 20)], none⟩,
     ⟨(some 18), .mv (.tmp 21), none⟩,
     ⟨(some 22), .ext (.tmp 18) 0, none⟩,
     ⟨(some 23), .ext (.tmp 18) 1, none⟩,
     ⟨(some 5), .mv (.tmp 22), none⟩,
     ⟨(some 6), .mv (.tmp 23), none⟩] [5, 6])
 (.seq (.reg [
     ⟨(some 24), .mv (.tmp 6), none⟩,
     ⟨(some 25), .mv (.tmp 24), none⟩,
     ⟨(some 26), .mv (.tmp 5), (some (25, true))⟩,
     ⟨(some 27), .call 103 [(.tmp 26), (.const (.bool false))], (some (25, true))⟩,
     ⟨(some 28), .un .not (.tmp 27), (some (25, true))⟩,
     ⟨(some 29), .pick (.tmp 25) (.tmp 28) (.const (.bool false)), none⟩,
     ⟨(some 4), .mv (.tmp 29), none⟩] [4])
 (.ret))))
theorem s_impl_IsCover : stripF Try.prog 50 [[1, 2], [1, 2, 17], [4], [5, 6], [4]] = some (c_impl_IsCover, [.tmp 4], 30) := by kernel_rfl

/-- loop.example/g00920/impl.coveredBy -/
abbrev f_impl_coveredBy : Nat := 102
def c_impl_coveredBy : SC :=
 .seq (.reg [
     ⟨(some 2), .box 24 (.tmp 0), none⟩,
     ⟨(some 4), .mv (.const (.slice none 0 0)), none⟩,
     ⟨(some 5), .mv (.const (.bool false)), none⟩] [1, 2])
 (.seq (.reg [
     ⟨(some 11), .faddr 0 (.tmp 2), none⟩,
     ⟨(some 12), .load 1 false (.tmp 11), none⟩,
     ⟨(some 13), .mslice 4 1 (.bool false) (.tmp 12) (.tmp 12), none⟩,
     ⟨(some 6), .mv (.tmp 13), none⟩] [1, 2, 6])
 (.seq (.seq (.reg [
     ⟨(some 14), .mv (.tmp 1), none⟩,
     ⟨(some 15), .len (.tmp 14), none⟩,
     ⟨(some 16), .mv (.const (.int .i64 0)), none⟩] [2, 6, 14, 15, 16])
 (.block 0 (.loop [2, 6, 14, 15, 16]
   (.seq (.reg [
       ⟨(some 17), .bin .lss (.tmp 16) (.tmp 15), none⟩] [2, 6, 14, 15, 16, 17])
   (.seq (.cond (.tmp 17)
    (.skip)
    (.exit 0))
   (.seq (.block 1 (.seq (.reg [
        ⟨(some 18), .iaddr 1 (.tmp 14) (.tmp 16), none⟩,
        ⟨(some 19), .load 1 false (.tmp 18), none⟩,
        ⟨(some 8), .mv (.tmp 19), none⟩] [2, 6, 8, 14, 15, 16])
    (.seq (.reg [
        ⟨(some 20), .faddr 1 (.tmp 2), none⟩,
        ⟨(some 21), .load 1 false (.tmp 20), none⟩,
        ⟨(some 22), .mv (.tmp 8), none⟩,
        ⟨(some 23), .iaddr 1 (.tmp 21) (.tmp 22), none⟩,
        ⟨(some 24), .load 1 false (.tmp 23), none⟩,
        ⟨(some 25), .len (.tmp 24), none⟩,
        ⟨(some 26), .mv (.const (.int .i64 0)), none⟩] [2, 6, 14, 15, 16, 24, 25, 26])
    (.block 2 (.loop [2, 6, 14, 15, 16, 24, 25, 26]
      (.seq (.reg [
          ⟨(some 27), .bin .lss (.tmp 26) (.tmp 25), none⟩] [2, 6, 14, 15, 16, 24, 25, 26, 27])
      (.seq (.cond (.tmp 27)
       (.skip)
       (.exit 2))
      (.seq (.block 3 (.seq (.reg [
           ⟨(some 28), .iaddr 1 (.tmp 24) (.tmp 26), none⟩,
           ⟨(some 29), .load 1 false (.tmp 28), none⟩,
           ⟨(some 10), .mv (.tmp 29), none⟩] [2, 6, 10, 14, 15, 16, 24, 25, 26])
       (.seq (.seq (.reg [
           ⟨(some 30), .mv (.tmp 6), none⟩,
           ⟨(some 31), .mv (.tmp 10), none⟩,
           ⟨(some 32), .iaddr 1 (.tmp 30) (.tmp 31), none⟩,
           ⟨(some 33), .load 1 false (.tmp 32), none⟩] [2, 6, 10, 14, 15, 16, 24, 25, 26, 33])
       (.cond (.tmp 33)
        (.seq (.reg [
            ⟨(some 4), .mv (.const (.slice none 0 0)), none⟩,
            ⟨(some 5), .mv (.const (.bool false)), none⟩] [4, 5])
        (.ret))
        (.skip)))
       (.reg [
           ⟨(some 34), .mv (.tmp 6), none⟩,
           ⟨(some 35), .mv (.tmp 10), none⟩,
           ⟨(some 36), .iaddr 1 (.tmp 34) (.tmp 35), none⟩,
           ⟨none, .store 1 (.tmp 36) (.const (.bool true)), none⟩] [2, 6, 14, 15, 16, 24, 25, 26]))))
      (.reg [
          ⟨(some 37), .bin .add (.tmp 26) (.const (.int .i64 1)), none⟩,
          ⟨(some 26), .mv (.tmp 37), none⟩] [2, 6, 14, 15, 16, 24, 25, 26])))))))))
   (.reg [
       ⟨(some 38), .bin .add (.tmp 16) (.const (.int .i64 1)), none⟩,
       ⟨(some 16), .mv (.tmp 38), none⟩] [2, 6, 14, 15, 16])))))))
 (.seq (.reg [
     ⟨(some 39), .mv (.tmp 6), none⟩,
     ⟨(some 4), .mv (.tmp 39), none⟩,
     ⟨(some 5), .mv (.const (.bool true)), none⟩] [4, 5])
 (.ret))))
theorem s_impl_coveredBy : stripF Try.prog 102 [[1, 2], [1, 2, 6], [2, 6, 14, 15, 16], [2, 6, 14, 15, 16], [2, 6, 14, 15, 16, 17], [2, 6, 8, 14, 15, 16], [2, 6, 14, 15, 16, 24, 25, 26], [2, 6, 14, 15, 16, 24, 25, 26], [2, 6, 14, 15, 16, 24, 25, 26, 27], [2, 6, 10, 14, 15, 16, 24, 25, 26], [2, 6, 10, 14, 15, 16, 24, 25, 26, 33], [4, 5], [2, 6, 14, 15, 16, 24, 25, 26], [2, 6, 14, 15, 16, 24, 25, 26], [2, 6, 14, 15, 16], [4, 5]] = some (c_impl_coveredBy, [.tmp 4, .tmp 5], 40) := by kernel_rfl

/-- slices.Contains[[]bool,bool] -/
abbrev f_slices_Contains_Lbool_bool : Nat := 103
def c_slices_Contains_Lbool_bool : SC :=
 .seq (.reg [
     ⟨(some 4), .mv (.const (.bool false)), none⟩] [0, 1])
 (.seq (.reg [
     ⟨(some 5), .mv (.tmp 0), none⟩,
     ⟨(some 6), .mv (.tmp 1), none⟩,
     ⟨(some 7), .call 134 [(.tmp 5), (.tmp 6)], none⟩,
     ⟨(some 8), .bin .geq (.tmp 7) (.const (.int .i64 0)), none⟩,
     ⟨(some 4), .mv (.tmp 8), none⟩] [4])
 (.ret))
theorem s_slices_Contains_Lbool_bool : stripF Try.prog 103 [[0, 1], [4]] = some (c_slices_Contains_Lbool_bool, [.tmp 4], 9) := by kernel_rfl

/-- slices.Index[[]bool,bool] -/
abbrev f_slices_Index_Lbool_bool : Nat := 134
def c_slices_Index_Lbool_bool : SC :=
 .seq (.reg [
     ⟨(some 4), .mv (.const (.int .i64 0)), none⟩] [0, 1])
 (.seq (.seq (.reg [
     ⟨(some 6), .mv (.tmp 0), none⟩,
     ⟨(some 7), .len (.tmp 6), none⟩,
     ⟨(some 8), .mv (.const (.int .i64 0)), none⟩] [0, 1, 7, 8])
 (.block 0 (.loop [0, 1, 7, 8]
   (.seq (.reg [
       ⟨(some 9), .bin .lss (.tmp 8) (.tmp 7), none⟩] [0, 1, 7, 8, 9])
   (.seq (.cond (.tmp 9)
    (.skip)
    (.exit 0))
   (.seq (.block 1 (.seq (.reg [
        ⟨(some 10), .mv (.tmp 8), none⟩,
        ⟨(some 5), .mv (.tmp 10), none⟩] [0, 1, 5, 7, 8])
    (.seq (.reg [
        ⟨(some 11), .mv (.tmp 1), none⟩,
        ⟨(some 12), .mv (.tmp 0), none⟩,
        ⟨(some 13), .mv (.tmp 5), none⟩,
        ⟨(some 14), .iaddr 1 (.tmp 12) (.tmp 13), none⟩,
        ⟨(some 15), .load 1 false (.tmp 14), none⟩,
        ⟨(some 16), .binb false (.tmp 11) (.tmp 15), none⟩] [0, 1, 5, 7, 8, 16])
    (.cond (.tmp 16)
     (.seq (.reg [
         ⟨(some 17), .mv (.tmp 5), none⟩,
         ⟨(some 4), .mv (.tmp 17), none⟩] [4])
     (.ret))
     (.skip)))))
   (.reg [
       ⟨(some 18), .bin .add (.tmp 8) (.const (.int .i64 1)), none⟩,
       ⟨(some 8), .mv (.tmp 18), none⟩] [0, 1, 7, 8])))))))
 (.seq (.reg [
     ⟨(some 4), .mv (.const (.int .i64 (-1))), none⟩] [4])
 (.ret)))
theorem s_slices_Index_Lbool_bool : stripF Try.prog 134 [[0, 1], [0, 1, 7, 8], [0, 1, 7, 8], [0, 1, 7, 8, 9], [0, 1, 5, 7, 8], [0, 1, 5, 7, 8, 16], [4], [0, 1, 7, 8], [4]] = some (c_slices_Index_Lbool_bool, [.tmp 4], 19) := by kernel_rfl


theorem IndexB_ok (H : List Blk) (xs : List Bool) (v : Bool) : ACalls Try.prog f_slices_Index_Lbool_bool [ilB xs, Bv v] H (fun r H' => (∃ i : Int, r = I i ∧ (0 ≤ i ↔ xs.contains v = true)) ∧ H' = H) := by
  refine ACalls.introB s_slices_Index_Lbool_bool (by simp) ?_; intro hB hA; unfold c_slices_Index_Lbool_bool; simp (config := { maxSteps := 1000000 }) (disch := (first | omega | (simp only [go_sem]; try omega))) only [go_sem, ↓GSplit_t, ↓GSplit_f, ↓GSplit_tf, ↓GSplit_ft, Nat.reduceAdd, Nat.reduceEqDiff, Nat.reduceLeDiff, Nat.reduceMul, Nat.reduceLT, reduceIte, Int.reduceToNat, bne_self_eq_false, beq_self_eq_true, w64_id, cast_succ, Bool.false_eq_true, Bool.and_true, Bool.true_and, Bool.and_false, Bool.false_and, Bool.not_not]
  repeat (first | (with_reducible refine SW.seq ?_) | (with_reducible refine SW.block ?_) | (with_reducible refine SW.rowC ?_) | (with_reducible refine SW.skip ?_) | (with_reducible refine SW.exit ?_) | (with_reducible intro _) | (with_reducible refine And.intro (by omega) ?_) | (simp (config := { maxSteps := 1000000 }) (disch := (first | omega | (simp only [go_sem]; try omega))) only [go_sem, ↓GSplit_t, ↓GSplit_f, ↓GSplit_tf, ↓GSplit_ft, Nat.reduceAdd, Nat.reduceEqDiff, Nat.reduceLeDiff, Nat.reduceMul, Nat.reduceLT, reduceIte, Int.reduceToNat, bne_self_eq_false, beq_self_eq_true, w64_id, cast_succ, Bool.false_eq_true, Bool.and_true, Bool.true_and, Bool.and_false, Bool.false_and, Bool.not_not]))
  refine SW.loopE (fun E0 H0 q E' H' => ∃ (pre post : List Bool), xs = pre ++ post ∧ q = post.length ∧ E' = aput E0 8 (I pre.length) ∧ H' = H0 ∧ pre.contains v = false) xs.length ⟨[], xs, rfl, rfl, rfl, rfl, rfl⟩ ?_
  rintro q E' H' ⟨pre, post, hpp, rfl, rfl, rfl, hn⟩
  simp (config := { maxSteps := 1000000 }) (disch := (first | omega | (simp only [go_sem]; try omega))) only [go_sem, ↓GSplit_t, ↓GSplit_f, ↓GSplit_tf, ↓GSplit_ft, Nat.reduceAdd, Nat.reduceEqDiff, Nat.reduceLeDiff, Nat.reduceMul, Nat.reduceLT, reduceIte, Int.reduceToNat, bne_self_eq_false, beq_self_eq_true, w64_id, cast_succ, Bool.false_eq_true, Bool.and_true, Bool.true_and, Bool.and_false, Bool.false_and, Bool.not_not]
  repeat (first | (with_reducible refine SW.seq ?_) | (with_reducible refine SW.block ?_) | (with_reducible refine SW.rowC ?_) | (with_reducible refine SW.skip ?_) | (with_reducible refine SW.exit ?_) | (with_reducible intro _) | (with_reducible refine And.intro (by omega) ?_) | (simp (config := { maxSteps := 1000000 }) (disch := (first | omega | (simp only [go_sem]; try omega))) only [go_sem, ↓GSplit_t, ↓GSplit_f, ↓GSplit_tf, ↓GSplit_ft, Nat.reduceAdd, Nat.reduceEqDiff, Nat.reduceLeDiff, Nat.reduceMul, Nat.reduceLT, reduceIte, Int.reduceToNat, bne_self_eq_false, beq_self_eq_true, w64_id, cast_succ, Bool.false_eq_true, Bool.and_true, Bool.true_and, Bool.and_false, Bool.false_and, Bool.not_not]))
  (first | refine SW.condD rfl (fun h => ?_) (fun h => ?_) | refine SW.condN rfl (fun h => ?_) (fun h => ?_) | refine SW.condNB rfl (fun h => ?_) (fun h => ?_) | refine SW.condB rfl (fun h => ?_) (fun h => ?_))
  · cases post with
    | nil => exfalso; simp at hpp; subst hpp; omega
    | cons x post =>
      have hgx : xs.getD pre.length false = x := by subst hpp; simp
      repeat (first | (with_reducible refine SW.seq ?_) | (with_reducible refine SW.block ?_) | (with_reducible refine SW.rowC ?_) | (with_reducible refine SW.skip ?_) | (with_reducible refine SW.exit ?_) | (with_reducible intro _) | (with_reducible refine And.intro (by omega) ?_) | (simp (config := { maxSteps := 1000000 }) (disch := (first | omega | (simp only [go_sem]; try omega))) only [go_sem, ↓GSplit_t, ↓GSplit_f, ↓GSplit_tf, ↓GSplit_ft, Nat.reduceAdd, Nat.reduceEqDiff, Nat.reduceLeDiff, Nat.reduceMul, Nat.reduceLT, reduceIte, Int.reduceToNat, bne_self_eq_false, beq_self_eq_true, w64_id, cast_succ, Bool.false_eq_true, Bool.and_true, Bool.true_and, Bool.and_false, Bool.false_and, Bool.not_not, hgx]))
      (first | refine SW.condD rfl (fun h2 => ?_) (fun h2 => ?_) | refine SW.condN rfl (fun h2 => ?_) (fun h2 => ?_) | refine SW.condNB rfl (fun h2 => ?_) (fun h2 => ?_) | refine SW.condB rfl (fun h2 => ?_) (fun h2 => ?_))
      · repeat (first | (with_reducible refine SW.seq ?_) | (with_reducible refine SW.block ?_) | (with_reducible refine SW.rowC ?_) | (with_reducible refine SW.skip ?_) | (with_reducible refine SW.exit ?_) | (with_reducible intro _) | (with_reducible refine And.intro (by omega) ?_) | (simp (config := { maxSteps := 1000000 }) (disch := (first | omega | (simp only [go_sem]; try omega))) only [go_sem, ↓GSplit_t, ↓GSplit_f, ↓GSplit_tf, ↓GSplit_ft, Nat.reduceAdd, Nat.reduceEqDiff, Nat.reduceLeDiff, Nat.reduceMul, Nat.reduceLT, reduceIte, Int.reduceToNat, bne_self_eq_false, beq_self_eq_true, w64_id, cast_succ, Bool.false_eq_true, Bool.and_true, Bool.true_and, Bool.and_false, Bool.false_and, Bool.not_not]))
        refine SW.ret ?_; (try simp only [go_sem]); (first | refine FunPost.one ?_ | refine FunPost.two ?_ | refine FunPost.three ?_); (try simp (config := { maxSteps := 1000000 }) (disch := (first | omega | (simp only [go_sem]; try omega))) only [go_sem, ↓GSplit_t, ↓GSplit_f, ↓GSplit_tf, ↓GSplit_ft, Nat.reduceAdd, Nat.reduceEqDiff, Nat.reduceLeDiff, Nat.reduceMul, Nat.reduceLT, reduceIte, Int.reduceToNat, bne_self_eq_false, beq_self_eq_true, w64_id, cast_succ, Bool.false_eq_true, Bool.and_true, Bool.true_and, Bool.and_false, Bool.false_and, Bool.not_not]); (first | (with_reducible refine GR.drop ?_ ?_; (simp only [and_self, and_true, true_and, implies_true, Bel_lit, Bel_I, Bel_Bv, Bel_nil, Bel_junk, Bel_nm, Bel_pc, Bel_il, Bel_agg, Bel_tup, Bel_fn, Bel_el, all_mapI, all_mapB, all_mapS, all_nilB, all_consB, EB_nil, EB_cons, BB_nil, BB_cons, Bel_ilS, Bel_ilSS, Bel_ilB, List.getElem?_cons_zero, List.take_succ_cons, List.take_zero, keep_nil, keep_cons])) | refine GR.of ?_); refine ⟨?_, rfl⟩; (try with_reducible rfl)
        exact ⟨_, rfl, by subst hpp; subst h2; simp⟩
      · repeat (first | (with_reducible refine SW.seq ?_) | (with_reducible refine SW.block ?_) | (with_reducible refine SW.rowC ?_) | (with_reducible refine SW.skip ?_) | (with_reducible refine SW.exit ?_) | (with_reducible intro _) | (with_reducible refine And.intro (by omega) ?_) | (simp (config := { maxSteps := 1000000 }) (disch := (first | omega | (simp only [go_sem]; try omega))) only [go_sem, ↓GSplit_t, ↓GSplit_f, ↓GSplit_tf, ↓GSplit_ft, Nat.reduceAdd, Nat.reduceEqDiff, Nat.reduceLeDiff, Nat.reduceMul, Nat.reduceLT, reduceIte, Int.reduceToNat, bne_self_eq_false, beq_self_eq_true, w64_id, cast_succ, Bool.false_eq_true, Bool.and_true, Bool.true_and, Bool.and_false, Bool.false_and, Bool.not_not]))
        refine SLoop.next post.length (by simp) ⟨pre ++ [x], post, by simp [hpp], rfl, ?_, rfl, ?_⟩
        · simp [go_sem]
        · simp at hn ⊢; exact ⟨hn, h2⟩
  · repeat (first | (with_reducible refine SW.seq ?_) | (with_reducible refine SW.block ?_) | (with_reducible refine SW.rowC ?_) | (with_reducible refine SW.skip ?_) | (with_reducible refine SW.exit ?_) | (with_reducible intro _) | (with_reducible refine And.intro (by omega) ?_) | (simp (config := { maxSteps := 1000000 }) (disch := (first | omega | (simp only [go_sem]; try omega))) only [go_sem, ↓GSplit_t, ↓GSplit_f, ↓GSplit_tf, ↓GSplit_ft, Nat.reduceAdd, Nat.reduceEqDiff, Nat.reduceLeDiff, Nat.reduceMul, Nat.reduceLT, reduceIte, Int.reduceToNat, bne_self_eq_false, beq_self_eq_true, w64_id, cast_succ, Bool.false_eq_true, Bool.and_true, Bool.true_and, Bool.and_false, Bool.false_and, Bool.not_not]))
    refine SW.ret ?_; (try simp only [go_sem]); (first | refine FunPost.one ?_ | refine FunPost.two ?_ | refine FunPost.three ?_); (try simp (config := { maxSteps := 1000000 }) (disch := (first | omega | (simp only [go_sem]; try omega))) only [go_sem, ↓GSplit_t, ↓GSplit_f, ↓GSplit_tf, ↓GSplit_ft, Nat.reduceAdd, Nat.reduceEqDiff, Nat.reduceLeDiff, Nat.reduceMul, Nat.reduceLT, reduceIte, Int.reduceToNat, bne_self_eq_false, beq_self_eq_true, w64_id, cast_succ, Bool.false_eq_true, Bool.and_true, Bool.true_and, Bool.and_false, Bool.false_and, Bool.not_not]); (first | (with_reducible refine GR.drop ?_ ?_; (simp only [and_self, and_true, true_and, implies_true, Bel_lit, Bel_I, Bel_Bv, Bel_nil, Bel_junk, Bel_nm, Bel_pc, Bel_il, Bel_agg, Bel_tup, Bel_fn, Bel_el, all_mapI, all_mapB, all_mapS, all_nilB, all_consB, EB_nil, EB_cons, BB_nil, BB_cons, Bel_ilS, Bel_ilSS, Bel_ilB, List.getElem?_cons_zero, List.take_succ_cons, List.take_zero, keep_nil, keep_cons])) | refine GR.of ?_); refine ⟨?_, rfl⟩; (try with_reducible rfl)
    have : post = [] := by cases post with
      | nil => rfl
      | cons x post => exfalso; subst hpp; simp at h; omega
    subst this
    refine ⟨-1, rfl, ?_⟩
    rw [List.append_nil] at hpp; subst hpp
    simpa using hn

theorem ContainsB_fn (xs : List Bool) (v : Bool) : PFn Try.prog f_slices_Contains_Lbool_bool [ilB xs, Bv v] (Bv (xs.contains v)) := by
  intro H; refine ACalls.introB s_slices_Contains_Lbool_bool (by simp) ?_; intro hB hA; unfold c_slices_Contains_Lbool_bool; simp (config := { maxSteps := 1000000 }) (disch := (first | omega | (simp only [go_sem]; try omega))) only [go_sem, ↓GSplit_t, ↓GSplit_f, ↓GSplit_tf, ↓GSplit_ft, Nat.reduceAdd, Nat.reduceEqDiff, Nat.reduceLeDiff, Nat.reduceMul, Nat.reduceLT, reduceIte, Int.reduceToNat, bne_self_eq_false, beq_self_eq_true, w64_id, cast_succ, Bool.false_eq_true, Bool.and_true, Bool.true_and, Bool.and_false, Bool.false_and, Bool.not_not]
  repeat (first | (with_reducible refine SW.seq ?_) | (with_reducible refine SW.block ?_) | (with_reducible refine SW.rowC ?_) | (with_reducible refine SW.skip ?_) | (with_reducible refine SW.exit ?_) | (with_reducible intro _) | (with_reducible refine And.intro (by omega) ?_) | (simp (config := { maxSteps := 1000000 }) (disch := (first | omega | (simp only [go_sem]; try omega))) only [go_sem, ↓GSplit_t, ↓GSplit_f, ↓GSplit_tf, ↓GSplit_ft, Nat.reduceAdd, Nat.reduceEqDiff, Nat.reduceLeDiff, Nat.reduceMul, Nat.reduceLT, reduceIte, Int.reduceToNat, bne_self_eq_false, beq_self_eq_true, w64_id, cast_succ, Bool.false_eq_true, Bool.and_true, Bool.true_and, Bool.and_false, Bool.false_and, Bool.not_not]))
  refine (IndexB_ok H xs v).mono ?_
  rintro r H' ⟨⟨i, rfl, h2⟩, rfl⟩
  repeat (first | (with_reducible refine SW.seq ?_) | (with_reducible refine SW.block ?_) | (with_reducible refine SW.rowC ?_) | (with_reducible refine SW.skip ?_) | (with_reducible refine SW.exit ?_) | (with_reducible intro _) | (with_reducible refine And.intro (by omega) ?_) | (simp (config := { maxSteps := 1000000 }) (disch := (first | omega | (simp only [go_sem]; try omega))) only [go_sem, ↓GSplit_t, ↓GSplit_f, ↓GSplit_tf, ↓GSplit_ft, Nat.reduceAdd, Nat.reduceEqDiff, Nat.reduceLeDiff, Nat.reduceMul, Nat.reduceLT, reduceIte, Int.reduceToNat, bne_self_eq_false, beq_self_eq_true, w64_id, cast_succ, Bool.false_eq_true, Bool.and_true, Bool.true_and, Bool.and_false, Bool.false_and, Bool.not_not]))
  refine SW.ret ?_; (try simp only [go_sem]); (first | refine FunPost.one ?_ | refine FunPost.two ?_ | refine FunPost.three ?_); (try simp (config := { maxSteps := 1000000 }) (disch := (first | omega | (simp only [go_sem]; try omega))) only [go_sem, ↓GSplit_t, ↓GSplit_f, ↓GSplit_tf, ↓GSplit_ft, Nat.reduceAdd, Nat.reduceEqDiff, Nat.reduceLeDiff, Nat.reduceMul, Nat.reduceLT, reduceIte, Int.reduceToNat, bne_self_eq_false, beq_self_eq_true, w64_id, cast_succ, Bool.false_eq_true, Bool.and_true, Bool.true_and, Bool.and_false, Bool.false_and, Bool.not_not]); (first | (with_reducible refine GR.drop ?_ ?_; (simp only [and_self, and_true, true_and, implies_true, Bel_lit, Bel_I, Bel_Bv, Bel_nil, Bel_junk, Bel_nm, Bel_pc, Bel_il, Bel_agg, Bel_tup, Bel_fn, Bel_el, all_mapI, all_mapB, all_mapS, all_nilB, all_consB, EB_nil, EB_cons, BB_nil, BB_cons, Bel_ilS, Bel_ilSS, Bel_ilB, List.getElem?_cons_zero, List.take_succ_cons, List.take_zero, keep_nil, keep_cons])) | refine GR.of ?_); refine ⟨?_, rfl⟩; (try with_reducible rfl)
  refine congrArg Bv ?_
  rw [Bool.eq_iff_iff, decide_eq_true_eq, h2]

/-- The items of some options. -/
def itemsOf (xss : List (List Int)) (cols : List Int) : List Int := cols.flatMap fun k => xss.getD k.toNat []
theorem itemsOf_mid (xss : List (List Int)) (pre post : List Int) (k : Int) : itemsOf xss (pre ++ k :: post) = itemsOf xss pre ++ xss.getD k.toNat [] ++ itemsOf xss post := by simp [itemsOf]
theorem itemsOf_snoc (xss : List (List Int)) (pre : List Int) (k : Int) : itemsOf xss (pre ++ [k]) = itemsOf xss pre ++ xss.getD k.toNat [] := by simp [itemsOf]
/-- Which of n items stand in a list. -/
def marks (n : Nat) (l : List Int) : List Bool := (List.range n).map fun (i : Nat) => l.contains (i : Int)
theorem marks_nil (n : Nat) : List.replicate n false = marks n [] := by
  unfold marks; apply List.ext_getElem <;> simp
theorem marks_length (n : Nat) (l : List Int) : (marks n l).length = n := by simp [marks]
theorem marks_set (n : Nat) (l : List Int) (x : Int) (h0 : 0 ≤ x) : (marks n l).set x.toNat true = marks n (l ++ [x]) := by
  unfold marks
  apply List.ext_getElem
  · simp
  · intro i h1 h2
    simp only [List.getElem_set, List.getElem_map, List.getElem_range]
    split
    · rename_i h; subst h; simp [Int.toNat_of_nonneg h0]
    · rename_i h
      have : ¬ (i : Int) = x := by intro he; apply h; rw [← he]; simp
      simp [this]
theorem marks_get (n : Nat) (l : List Int) (x : Int) (h0 : 0 ≤ x) (h1 : x < n) : (marks n l).getD x.toNat false = l.contains x := by
  have : x.toNat < n := by omega
  simp [marks, this, Int.toNat_of_nonneg h0]

theorem coveredBy_fn (n : Nat) (xss : List (List Int)) (cols : List Int) (hn : n ≤ 1000) (hc : ∀ k ∈ cols, 0 ≤ k ∧ k < xss.length) (hx : ∀ xs ∈ xss, ∀ x ∈ xs, 0 ≤ x ∧ x < n) :
    PFn Try.prog f_impl_coveredBy [.agg [I n, ilSS xss], ilS cols] (if (itemsOf xss cols).Nodup then .tup [ilB (marks n (itemsOf xss cols)), Bv true] else .tup [ilB [], Bv false]) := by
  intro H; refine ACalls.introB s_impl_coveredBy (by simp) ?_; intro hB hA; unfold c_impl_coveredBy; simp (config := { maxSteps := 1000000 }) (disch := (first | omega | (simp only [go_sem]; try omega))) only [go_sem, ↓GSplit_t, ↓GSplit_f, ↓GSplit_tf, ↓GSplit_ft, Nat.reduceAdd, Nat.reduceEqDiff, Nat.reduceLeDiff, Nat.reduceMul, Nat.reduceLT, reduceIte, Int.reduceToNat, bne_self_eq_false, beq_self_eq_true, w64_id, cast_succ, Bool.false_eq_true, Bool.and_true, Bool.true_and, Bool.and_false, Bool.false_and, Bool.not_not]
  repeat (first | (with_reducible refine SW.seq ?_) | (with_reducible refine SW.block ?_) | (with_reducible refine SW.rowC ?_) | (with_reducible refine SW.skip ?_) | (with_reducible refine SW.exit ?_) | (with_reducible intro _) | (with_reducible refine And.intro (by omega) ?_) | (simp (config := { maxSteps := 1000000 }) (disch := (first | omega | (simp only [go_sem]; try omega))) only [go_sem, ↓GSplit_t, ↓GSplit_f, ↓GSplit_tf, ↓GSplit_ft, Nat.reduceAdd, Nat.reduceEqDiff, Nat.reduceLeDiff, Nat.reduceMul, Nat.reduceLT, reduceIte, Int.reduceToNat, bne_self_eq_false, beq_self_eq_true, w64_id, cast_succ, Bool.false_eq_true, Bool.and_true, Bool.true_and, Bool.and_false, Bool.false_and, Bool.not_not]))
  rw [marks_nil]
  refine SW.loopE (fun E0 H0 q E' H' => ∃ (pre post : List Int), cols = pre ++ post ∧ q = post.length ∧ E' = aput E0 16 (I pre.length) ∧ H' = H ++ [⟨0, 24, 1, [I n, ilSS xss]⟩, ⟨0, 4, 1, (marks n (itemsOf xss pre)).map Bv⟩] ∧ (itemsOf xss pre).Nodup) cols.length ⟨[], cols, rfl, rfl, rfl, rfl, by simp [itemsOf]⟩ ?_
  rintro q E' H' ⟨pre, post, hp, rfl, rfl, rfl, hnd⟩
  simp (config := { maxSteps := 1000000 }) (disch := (first | omega | (simp only [go_sem]; try omega))) only [go_sem, ↓GSplit_t, ↓GSplit_f, ↓GSplit_tf, ↓GSplit_ft, Nat.reduceAdd, Nat.reduceEqDiff, Nat.reduceLeDiff, Nat.reduceMul, Nat.reduceLT, reduceIte, Int.reduceToNat, bne_self_eq_false, beq_self_eq_true, w64_id, cast_succ, Bool.false_eq_true, Bool.and_true, Bool.true_and, Bool.and_false, Bool.false_and, Bool.not_not]
  repeat (first | (with_reducible refine SW.seq ?_) | (with_reducible refine SW.block ?_) | (with_reducible refine SW.rowC ?_) | (with_reducible refine SW.skip ?_) | (with_reducible refine SW.exit ?_) | (with_reducible intro _) | (with_reducible refine And.intro (by omega) ?_) | (simp (config := { maxSteps := 1000000 }) (disch := (first | omega | (simp only [go_sem]; try omega))) only [go_sem, ↓GSplit_t, ↓GSplit_f, ↓GSplit_tf, ↓GSplit_ft, Nat.reduceAdd, Nat.reduceEqDiff, Nat.reduceLeDiff, Nat.reduceMul, Nat.reduceLT, reduceIte, Int.reduceToNat, bne_self_eq_false, beq_self_eq_true, w64_id, cast_succ, Bool.false_eq_true, Bool.and_true, Bool.true_and, Bool.and_false, Bool.false_and, Bool.not_not]))
  (first | refine SW.condD rfl (fun h => ?_) (fun h => ?_) | refine SW.condN rfl (fun h => ?_) (fun h => ?_) | refine SW.condNB rfl (fun h => ?_) (fun h => ?_) | refine SW.condB rfl (fun h => ?_) (fun h => ?_))
  · cases post with
    | nil => exfalso; simp at hp; subst hp; omega
    | cons k post =>
      have hg : cols.getD pre.length 0 = k := by subst hp; simp
      have hk := hc k (by subst hp; simp)
      repeat (first | (with_reducible refine SW.seq ?_) | (with_reducible refine SW.block ?_) | (with_reducible refine SW.rowC ?_) | (with_reducible refine SW.skip ?_) | (with_reducible refine SW.exit ?_) | (with_reducible intro _) | (with_reducible refine And.intro (by omega) ?_) | (simp (config := { maxSteps := 1000000 }) (disch := (first | omega | (simp only [go_sem]; try omega))) only [go_sem, ↓GSplit_t, ↓GSplit_f, ↓GSplit_tf, ↓GSplit_ft, Nat.reduceAdd, Nat.reduceEqDiff, Nat.reduceLeDiff, Nat.reduceMul, Nat.reduceLT, reduceIte, Int.reduceToNat, bne_self_eq_false, beq_self_eq_true, w64_id, cast_succ, Bool.false_eq_true, Bool.and_true, Bool.true_and, Bool.and_false, Bool.false_and, Bool.not_not, hg]))
      generalize hset : xss.getD k.toNat [] = set at *
      have hset' : ∀ x ∈ set, 0 ≤ x ∧ x < n := by
        intro x hxs
        refine hx set ?_ x hxs
        rw [← hset]; simp [List.getElem?_eq_getElem (show k.toNat < xss.length by omega)]
      refine SW.loopE (fun E0 H0 q E' H' => ∃ (pr po : List Int), set = pr ++ po ∧ q = po.length ∧ E' = aput E0 26 (I pr.length) ∧ H' = H ++ [⟨0, 24, 1, [I n, ilSS xss]⟩, ⟨0, 4, 1, (marks n (itemsOf xss pre ++ pr)).map Bv⟩] ∧ (itemsOf xss pre ++ pr).Nodup) set.length ⟨[], set, rfl, rfl, rfl, by simp, by simpa using hnd⟩ ?_
      rintro q E' H' ⟨pr, po, hpx, rfl, rfl, rfl, hnd2⟩
      simp (config := { maxSteps := 1000000 }) (disch := (first | omega | (simp only [go_sem]; try omega))) only [go_sem, ↓GSplit_t, ↓GSplit_f, ↓GSplit_tf, ↓GSplit_ft, Nat.reduceAdd, Nat.reduceEqDiff, Nat.reduceLeDiff, Nat.reduceMul, Nat.reduceLT, reduceIte, Int.reduceToNat, bne_self_eq_false, beq_self_eq_true, w64_id, cast_succ, Bool.false_eq_true, Bool.and_true, Bool.true_and, Bool.and_false, Bool.false_and, Bool.not_not]
      repeat (first | (with_reducible refine SW.seq ?_) | (with_reducible refine SW.block ?_) | (with_reducible refine SW.rowC ?_) | (with_reducible refine SW.skip ?_) | (with_reducible refine SW.exit ?_) | (with_reducible intro _) | (with_reducible refine And.intro (by omega) ?_) | (simp (config := { maxSteps := 1000000 }) (disch := (first | omega | (simp only [go_sem]; try omega))) only [go_sem, ↓GSplit_t, ↓GSplit_f, ↓GSplit_tf, ↓GSplit_ft, Nat.reduceAdd, Nat.reduceEqDiff, Nat.reduceLeDiff, Nat.reduceMul, Nat.reduceLT, reduceIte, Int.reduceToNat, bne_self_eq_false, beq_self_eq_true, w64_id, cast_succ, Bool.false_eq_true, Bool.and_true, Bool.true_and, Bool.and_false, Bool.false_and, Bool.not_not]))
      (first | refine SW.condD rfl (fun h6 => ?_) (fun h6 => ?_) | refine SW.condN rfl (fun h6 => ?_) (fun h6 => ?_) | refine SW.condNB rfl (fun h6 => ?_) (fun h6 => ?_) | refine SW.condB rfl (fun h6 => ?_) (fun h6 => ?_))
      · cases po with
        | nil => exfalso; simp at hpx; subst hpx; omega
        | cons y po =>
          have hgy : set.getD pr.length 0 = y := by subst hpx; simp
          have hy := hset' y (by subst hpx; simp)
          have htk : ((marks n (itemsOf xss pre ++ pr)).map Bv).take n = (marks n (itemsOf xss pre ++ pr)).map Bv := List.take_of_length_le (by simp [marks_length])
          have hll := marks_length n (itemsOf xss pre ++ pr)
          repeat (first | (with_reducible refine SW.seq ?_) | (with_reducible refine SW.block ?_) | (with_reducible refine SW.rowC ?_) | (with_reducible refine SW.skip ?_) | (with_reducible refine SW.exit ?_) | (with_reducible intro _) | (with_reducible refine And.intro (by omega) ?_) | (simp (config := { maxSteps := 1000000 }) (disch := (first | omega | (simp only [go_sem]; try omega))) only [go_sem, ↓GSplit_t, ↓GSplit_f, ↓GSplit_tf, ↓GSplit_ft, Nat.reduceAdd, Nat.reduceEqDiff, Nat.reduceLeDiff, Nat.reduceMul, Nat.reduceLT, reduceIte, Int.reduceToNat, bne_self_eq_false, beq_self_eq_true, w64_id, cast_succ, Bool.false_eq_true, Bool.and_true, Bool.true_and, Bool.and_false, Bool.false_and, Bool.not_not, hgy, htk, marks_get n _ y hy.1 hy.2]))
          (first | refine SW.condD rfl (fun h7 => ?_) (fun h7 => ?_) | refine SW.condN rfl (fun h7 => ?_) (fun h7 => ?_) | refine SW.condNB rfl (fun h7 => ?_) (fun h7 => ?_) | refine SW.condB rfl (fun h7 => ?_) (fun h7 => ?_))
          · repeat (first | (with_reducible refine SW.seq ?_) | (with_reducible refine SW.block ?_) | (with_reducible refine SW.rowC ?_) | (with_reducible refine SW.skip ?_) | (with_reducible refine SW.exit ?_) | (with_reducible intro _) | (with_reducible refine And.intro (by omega) ?_) | (simp (config := { maxSteps := 1000000 }) (disch := (first | omega | (simp only [go_sem]; try omega))) only [go_sem, ↓GSplit_t, ↓GSplit_f, ↓GSplit_tf, ↓GSplit_ft, Nat.reduceAdd, Nat.reduceEqDiff, Nat.reduceLeDiff, Nat.reduceMul, Nat.reduceLT, reduceIte, Int.reduceToNat, bne_self_eq_false, beq_self_eq_true, w64_id, cast_succ, Bool.false_eq_true, Bool.and_true, Bool.true_and, Bool.and_false, Bool.false_and, Bool.not_not]))
            refine SW.ret ?_; (try simp only [go_sem]); (first | refine FunPost.one ?_ | refine FunPost.two ?_ | refine FunPost.three ?_); (try simp (config := { maxSteps := 1000000 }) (disch := (first | omega | (simp only [go_sem]; try omega))) only [go_sem, ↓GSplit_t, ↓GSplit_f, ↓GSplit_tf, ↓GSplit_ft, Nat.reduceAdd, Nat.reduceEqDiff, Nat.reduceLeDiff, Nat.reduceMul, Nat.reduceLT, reduceIte, Int.reduceToNat, bne_self_eq_false, beq_self_eq_true, w64_id, cast_succ, Bool.false_eq_true, Bool.and_true, Bool.true_and, Bool.and_false, Bool.false_and, Bool.not_not])
            refine GR.froz (r' := .tup [ilB [], Bv false]) (froz_tup2 .nil (froz_B' _)) ⟨?_, rfl⟩
            rw [if_neg]
            rw [hp, itemsOf_mid, hset, hpx]
            intro hnd3
            have h8 := (List.nodup_append.1 hnd3).1
            rw [← List.append_assoc] at h8
            exact (List.nodup_append.1 h8).2.2 y (by simpa using h7) y (by simp) rfl
          · repeat (first | (with_reducible refine SW.seq ?_) | (with_reducible refine SW.block ?_) | (with_reducible refine SW.rowC ?_) | (with_reducible refine SW.skip ?_) | (with_reducible refine SW.exit ?_) | (with_reducible intro _) | (with_reducible refine And.intro (by omega) ?_) | (simp (config := { maxSteps := 1000000 }) (disch := (first | omega | (simp only [go_sem]; try omega))) only [go_sem, ↓GSplit_t, ↓GSplit_f, ↓GSplit_tf, ↓GSplit_ft, Nat.reduceAdd, Nat.reduceEqDiff, Nat.reduceLeDiff, Nat.reduceMul, Nat.reduceLT, reduceIte, Int.reduceToNat, bne_self_eq_false, beq_self_eq_true, w64_id, cast_succ, Bool.false_eq_true, Bool.and_true, Bool.true_and, Bool.and_false, Bool.false_and, Bool.not_not, htk]))
            refine SLoop.next po.length (by simp) ⟨pr ++ [y], po, by simp [hpx], rfl, ?_, ?_, ?_⟩
            · simp [go_sem]
            · rw [marks_set n _ y hy.1, List.append_assoc]
            · rw [← List.append_assoc, List.nodup_append]
              refine ⟨hnd2, by simp, ?_⟩
              rintro a ha b hb rfl
              simp at hb; subst hb
              simp at h7 ha
              rcases ha with ha | ha
              · exact h7.1 ha
              · exact h7.2 ha
      · have : po = [] := by cases po with
          | nil => rfl
          | cons y po => exfalso; subst hpx; simp at h6; omega
        subst this
        rw [List.append_nil] at hpx
        subst hpx
        repeat (first | (with_reducible refine SW.seq ?_) | (with_reducible refine SW.block ?_) | (with_reducible refine SW.rowC ?_) | (with_reducible refine SW.skip ?_) | (with_reducible refine SW.exit ?_) | (with_reducible intro _) | (with_reducible refine And.intro (by omega) ?_) | (simp (config := { maxSteps := 1000000 }) (disch := (first | omega | (simp only [go_sem]; try omega))) only [go_sem, ↓GSplit_t, ↓GSplit_f, ↓GSplit_tf, ↓GSplit_ft, Nat.reduceAdd, Nat.reduceEqDiff, Nat.reduceLeDiff, Nat.reduceMul, Nat.reduceLT, reduceIte, Int.reduceToNat, bne_self_eq_false, beq_self_eq_true, w64_id, cast_succ, Bool.false_eq_true, Bool.and_true, Bool.true_and, Bool.and_false, Bool.false_and, Bool.not_not]))
        refine SLoop.next post.length (by simp) ⟨pre ++ [k], post, by simp [hp], rfl, ?_, ?_, ?_⟩
        · simp [go_sem]
        · rw [itemsOf_snoc, hset]
        · rw [itemsOf_snoc, hset]; exact hnd2
  · have : post = [] := by cases post with
      | nil => rfl
      | cons x post => exfalso; subst hp; simp at h; omega
    subst this
    rw [List.append_nil] at hp
    subst hp
    repeat (first | (with_reducible refine SW.seq ?_) | (with_reducible refine SW.block ?_) | (with_reducible refine SW.rowC ?_) | (with_reducible refine SW.skip ?_) | (with_reducible refine SW.exit ?_) | (with_reducible intro _) | (with_reducible refine And.intro (by omega) ?_) | (simp (config := { maxSteps := 1000000 }) (disch := (first | omega | (simp only [go_sem]; try omega))) only [go_sem, ↓GSplit_t, ↓GSplit_f, ↓GSplit_tf, ↓GSplit_ft, Nat.reduceAdd, Nat.reduceEqDiff, Nat.reduceLeDiff, Nat.reduceMul, Nat.reduceLT, reduceIte, Int.reduceToNat, bne_self_eq_false, beq_self_eq_true, w64_id, cast_succ, Bool.false_eq_true, Bool.and_true, Bool.true_and, Bool.and_false, Bool.false_and, Bool.not_not]))
    refine SW.ret ?_; (try simp only [go_sem]); (first | refine FunPost.one ?_ | refine FunPost.two ?_ | refine FunPost.three ?_); (try simp (config := { maxSteps := 1000000 }) (disch := (first | omega | (simp only [go_sem]; try omega))) only [go_sem, ↓GSplit_t, ↓GSplit_f, ↓GSplit_tf, ↓GSplit_ft, Nat.reduceAdd, Nat.reduceEqDiff, Nat.reduceLeDiff, Nat.reduceMul, Nat.reduceLT, reduceIte, Int.reduceToNat, bne_self_eq_false, beq_self_eq_true, w64_id, cast_succ, Bool.false_eq_true, Bool.and_true, Bool.true_and, Bool.and_false, Bool.false_and, Bool.not_not])
    have hll := marks_length n (itemsOf xss cols)
    have hf := froz_rowB (H := H ++ [⟨0, 24, 1, [I n, ilSS xss]⟩, ⟨0, 4, 1, (marks n (itemsOf xss cols)).map Bv⟩]) (b := H.length) (r := H.length + 1) (ver := 0) (ty := 4) (xs := marks n (itemsOf xss cols)) (by omega) (by simp)
    rw [hll] at hf
    refine GR.froz (froz_tup2 hf (froz_B' _)) ⟨?_, rfl⟩
    rw [if_pos hnd]

def coverB (n : Int) (xss : List (List Int)) (cols : List Int) : Bool :=
  coverOk n xss && asc 0 (xss.length - 1) cols && decide (itemsOf xss cols).Nodup && !(marks n.toNat (itemsOf xss cols)).contains false

theorem coverOk_facts {n : Int} {xss : List (List Int)} (h : coverOk n xss = true) : 1 ≤ n ∧ n ≤ 64 ∧ xss.length ≤ 256 ∧ ∀ xs ∈ xss, (∀ x ∈ xs, 0 ≤ x ∧ x < n) ∧ xs.length ≤ 64 := by
  simp only [coverOk, Bool.and_eq_true, decide_eq_true_eq, List.all_eq_true] at h
  refine ⟨h.1.1.1, h.1.1.2, h.1.2, fun xs hx => ⟨fun x hxs => ?_, ?_⟩⟩
  · have := asc_mem (h.2 xs hx).2 x hxs; omega
  · rcases asc_len (h.2 xs hx).2 with h2 | h2
    · subst h2; simp
    · omega

theorem implIsCover_fn (n : Int) (xss : List (List Int)) (cols : List Int) (hx : ∀ xs ∈ xss, ∀ x ∈ xs, (Lit.int .i64 x).wf = true) (hx2 : ∀ x ∈ cols, (Lit.int .i64 x).wf = true) (hl : xss.length ≤ 1073741824) : PFn Try.prog f_impl_IsCover [.agg [I n, ilSS xss], ilS cols] (Bv (coverB n xss cols)) := by
  intro H; refine ACalls.introB s_impl_IsCover (by simp) ?_; intro hB hA; unfold c_impl_IsCover; simp (config := { maxSteps := 1000000 }) (disch := (first | omega | (simp only [go_sem]; try omega))) only [go_sem, ↓GSplit_t, ↓GSplit_f, ↓GSplit_tf, ↓GSplit_ft, Nat.reduceAdd, Nat.reduceEqDiff, Nat.reduceLeDiff, Nat.reduceMul, Nat.reduceLT, reduceIte, Int.reduceToNat, bne_self_eq_false, beq_self_eq_true, w64_id, cast_succ, Bool.false_eq_true, Bool.and_true, Bool.true_and, Bool.and_false, Bool.false_and, Bool.not_not]
  repeat (first | (with_reducible refine SW.seq ?_) | (with_reducible refine SW.block ?_) | (with_reducible refine SW.rowC ?_) | (with_reducible refine SW.skip ?_) | (with_reducible refine SW.exit ?_) | (with_reducible refine PFn.use (implValidCover_fn n xss hx) ?_) | (with_reducible refine PFn.useq (implValidCover_fn n xss hx) ?_) | (with_reducible intro _) | (with_reducible refine And.intro (by omega) ?_) | (simp (config := { maxSteps := 1000000 }) (disch := (first | omega | (simp only [go_sem]; try omega))) only [go_sem, ↓GSplit_t, ↓GSplit_f, ↓GSplit_tf, ↓GSplit_ft, Nat.reduceAdd, Nat.reduceEqDiff, Nat.reduceLeDiff, Nat.reduceMul, Nat.reduceLT, reduceIte, Int.reduceToNat, bne_self_eq_false, beq_self_eq_true, w64_id, cast_succ, Bool.false_eq_true, Bool.and_true, Bool.true_and, Bool.and_false, Bool.false_and, Bool.not_not]))
  (first | refine GSplit.df (fun h => ?_) (fun h => ?_) | refine GSplit.dt (fun h => ?_) (fun h => ?_) | refine GSplit.ndf (fun h => ?_) (fun h => ?_) | refine GSplit.ndt (fun h => ?_) (fun h => ?_) | refine GSplit.nbf (fun h => ?_) (fun h => ?_) | refine GSplit.nbt (fun h => ?_) (fun h => ?_) | refine GSplit.bf (fun h => ?_) (fun h => ?_) | refine GSplit.bt (fun h => ?_) (fun h => ?_))
  · have hf := coverOk_facts h
    obtain ⟨m, rfl⟩ := Int.eq_ofNat_of_zero_le (show 0 ≤ n by omega)
    repeat (first | (with_reducible refine SW.seq ?_) | (with_reducible refine SW.block ?_) | (with_reducible refine SW.rowC ?_) | (with_reducible refine SW.skip ?_) | (with_reducible refine SW.exit ?_) | (with_reducible refine PFn.use (sizeS_fn _) ?_) | (with_reducible refine PFn.useq (sizeS_fn _) ?_) | (with_reducible refine PFn.use (areIndices_fn cols xss.length hx2 (by omega) (by omega)) ?_) | (with_reducible refine PFn.useq (areIndices_fn cols xss.length hx2 (by omega) (by omega)) ?_) | (with_reducible intro _) | (with_reducible refine And.intro (by omega) ?_) | (simp (config := { maxSteps := 1000000 }) (disch := (first | omega | (simp only [go_sem]; try omega))) only [go_sem, ↓GSplit_t, ↓GSplit_f, ↓GSplit_tf, ↓GSplit_ft, Nat.reduceAdd, Nat.reduceEqDiff, Nat.reduceLeDiff, Nat.reduceMul, Nat.reduceLT, reduceIte, Int.reduceToNat, bne_self_eq_false, beq_self_eq_true, w64_id, cast_succ, Bool.false_eq_true, Bool.and_true, Bool.true_and, Bool.and_false, Bool.false_and, Bool.not_not]))
    (first | refine SW.condD rfl (fun h2 => ?_) (fun h2 => ?_) | refine SW.condN rfl (fun h2 => ?_) (fun h2 => ?_) | refine SW.condNB rfl (fun h2 => ?_) (fun h2 => ?_) | refine SW.condB rfl (fun h2 => ?_) (fun h2 => ?_))
    · repeat (first | (with_reducible refine SW.seq ?_) | (with_reducible refine SW.block ?_) | (with_reducible refine SW.rowC ?_) | (with_reducible refine SW.skip ?_) | (with_reducible refine SW.exit ?_) | (with_reducible intro _) | (with_reducible refine And.intro (by omega) ?_) | (simp (config := { maxSteps := 1000000 }) (disch := (first | omega | (simp only [go_sem]; try omega))) only [go_sem, ↓GSplit_t, ↓GSplit_f, ↓GSplit_tf, ↓GSplit_ft, Nat.reduceAdd, Nat.reduceEqDiff, Nat.reduceLeDiff, Nat.reduceMul, Nat.reduceLT, reduceIte, Int.reduceToNat, bne_self_eq_false, beq_self_eq_true, w64_id, cast_succ, Bool.false_eq_true, Bool.and_true, Bool.true_and, Bool.and_false, Bool.false_and, Bool.not_not]))
      refine SW.ret ?_; (try simp only [go_sem]); (first | refine FunPost.one ?_ | refine FunPost.two ?_ | refine FunPost.three ?_); (try simp (config := { maxSteps := 1000000 }) (disch := (first | omega | (simp only [go_sem]; try omega))) only [go_sem, ↓GSplit_t, ↓GSplit_f, ↓GSplit_tf, ↓GSplit_ft, Nat.reduceAdd, Nat.reduceEqDiff, Nat.reduceLeDiff, Nat.reduceMul, Nat.reduceLT, reduceIte, Int.reduceToNat, bne_self_eq_false, beq_self_eq_true, w64_id, cast_succ, Bool.false_eq_true, Bool.and_true, Bool.true_and, Bool.and_false, Bool.false_and, Bool.not_not]); (first | (with_reducible refine GR.drop ?_ ?_; (simp only [and_self, and_true, true_and, implies_true, Bel_lit, Bel_I, Bel_Bv, Bel_nil, Bel_junk, Bel_nm, Bel_pc, Bel_il, Bel_agg, Bel_tup, Bel_fn, Bel_el, all_mapI, all_mapB, all_mapS, all_nilB, all_consB, EB_nil, EB_cons, BB_nil, BB_cons, Bel_ilS, Bel_ilSS, Bel_ilB, List.getElem?_cons_zero, List.take_succ_cons, List.take_zero, keep_nil, keep_cons])) | refine GR.of ?_); refine ⟨?_, rfl⟩; (try with_reducible rfl)
      rw [coverB, h, h2]; rfl
    · have ha := asc_mem h2
      have hcb := coveredBy_fn m xss cols (by omega) (fun k hk => by have := ha k hk; omega) (fun xs hxs => (hf.2.2.2 xs hxs).1)
      by_cases hnd : (itemsOf xss cols).Nodup
      · rw [if_pos hnd] at hcb
        repeat (first | (with_reducible refine SW.seq ?_) | (with_reducible refine SW.block ?_) | (with_reducible refine SW.rowC ?_) | (with_reducible refine SW.skip ?_) | (with_reducible refine SW.exit ?_) | (with_reducible refine PFn.use (hcb) ?_) | (with_reducible refine PFn.useq (hcb) ?_) | (with_reducible refine PFn.use (ContainsB_fn _ _) ?_) | (with_reducible refine PFn.useq (ContainsB_fn _ _) ?_) | (with_reducible intro _) | (with_reducible refine And.intro (by omega) ?_) | (simp (config := { maxSteps := 1000000 }) (disch := (first | omega | (simp only [go_sem]; try omega))) only [go_sem, ↓GSplit_t, ↓GSplit_f, ↓GSplit_tf, ↓GSplit_ft, Nat.reduceAdd, Nat.reduceEqDiff, Nat.reduceLeDiff, Nat.reduceMul, Nat.reduceLT, reduceIte, Int.reduceToNat, bne_self_eq_false, beq_self_eq_true, w64_id, cast_succ, Bool.false_eq_true, Bool.and_true, Bool.true_and, Bool.and_false, Bool.false_and, Bool.not_not]))
        refine SW.ret ?_; (try simp only [go_sem]); (first | refine FunPost.one ?_ | refine FunPost.two ?_ | refine FunPost.three ?_); (try simp (config := { maxSteps := 1000000 }) (disch := (first | omega | (simp only [go_sem]; try omega))) only [go_sem, ↓GSplit_t, ↓GSplit_f, ↓GSplit_tf, ↓GSplit_ft, Nat.reduceAdd, Nat.reduceEqDiff, Nat.reduceLeDiff, Nat.reduceMul, Nat.reduceLT, reduceIte, Int.reduceToNat, bne_self_eq_false, beq_self_eq_true, w64_id, cast_succ, Bool.false_eq_true, Bool.and_true, Bool.true_and, Bool.and_false, Bool.false_and, Bool.not_not]); (first | (with_reducible refine GR.drop ?_ ?_; (simp only [and_self, and_true, true_and, implies_true, Bel_lit, Bel_I, Bel_Bv, Bel_nil, Bel_junk, Bel_nm, Bel_pc, Bel_il, Bel_agg, Bel_tup, Bel_fn, Bel_el, all_mapI, all_mapB, all_mapS, all_nilB, all_consB, EB_nil, EB_cons, BB_nil, BB_cons, Bel_ilS, Bel_ilSS, Bel_ilB, List.getElem?_cons_zero, List.take_succ_cons, List.take_zero, keep_nil, keep_cons])) | refine GR.of ?_); refine ⟨?_, rfl⟩; (try with_reducible rfl)
        rw [coverB, h, h2]; simp [hnd]
      · rw [if_neg hnd] at hcb
        repeat (first | (with_reducible refine SW.seq ?_) | (with_reducible refine SW.block ?_) | (with_reducible refine SW.rowC ?_) | (with_reducible refine SW.skip ?_) | (with_reducible refine SW.exit ?_) | (with_reducible refine PFn.use (hcb) ?_) | (with_reducible refine PFn.useq (hcb) ?_) | (with_reducible intro _) | (with_reducible refine And.intro (by omega) ?_) | (simp (config := { maxSteps := 1000000 }) (disch := (first | omega | (simp only [go_sem]; try omega))) only [go_sem, ↓GSplit_t, ↓GSplit_f, ↓GSplit_tf, ↓GSplit_ft, Nat.reduceAdd, Nat.reduceEqDiff, Nat.reduceLeDiff, Nat.reduceMul, Nat.reduceLT, reduceIte, Int.reduceToNat, bne_self_eq_false, beq_self_eq_true, w64_id, cast_succ, Bool.false_eq_true, Bool.and_true, Bool.true_and, Bool.and_false, Bool.false_and, Bool.not_not]))
        refine SW.ret ?_; (try simp only [go_sem]); (first | refine FunPost.one ?_ | refine FunPost.two ?_ | refine FunPost.three ?_); (try simp (config := { maxSteps := 1000000 }) (disch := (first | omega | (simp only [go_sem]; try omega))) only [go_sem, ↓GSplit_t, ↓GSplit_f, ↓GSplit_tf, ↓GSplit_ft, Nat.reduceAdd, Nat.reduceEqDiff, Nat.reduceLeDiff, Nat.reduceMul, Nat.reduceLT, reduceIte, Int.reduceToNat, bne_self_eq_false, beq_self_eq_true, w64_id, cast_succ, Bool.false_eq_true, Bool.and_true, Bool.true_and, Bool.and_false, Bool.false_and, Bool.not_not]); (first | (with_reducible refine GR.drop ?_ ?_; (simp only [and_self, and_true, true_and, implies_true, Bel_lit, Bel_I, Bel_Bv, Bel_nil, Bel_junk, Bel_nm, Bel_pc, Bel_il, Bel_agg, Bel_tup, Bel_fn, Bel_el, all_mapI, all_mapB, all_mapS, all_nilB, all_consB, EB_nil, EB_cons, BB_nil, BB_cons, Bel_ilS, Bel_ilSS, Bel_ilB, List.getElem?_cons_zero, List.take_succ_cons, List.take_zero, keep_nil, keep_cons])) | refine GR.of ?_); refine ⟨?_, rfl⟩; (try with_reducible rfl)
        rw [coverB, h, h2]; simp [hnd]
  · repeat (first | (with_reducible refine SW.seq ?_) | (with_reducible refine SW.block ?_) | (with_reducible refine SW.rowC ?_) | (with_reducible refine SW.skip ?_) | (with_reducible refine SW.exit ?_) | (with_reducible intro _) | (with_reducible refine And.intro (by omega) ?_) | (simp (config := { maxSteps := 1000000 }) (disch := (first | omega | (simp only [go_sem]; try omega))) only [go_sem, ↓GSplit_t, ↓GSplit_f, ↓GSplit_tf, ↓GSplit_ft, Nat.reduceAdd, Nat.reduceEqDiff, Nat.reduceLeDiff, Nat.reduceMul, Nat.reduceLT, reduceIte, Int.reduceToNat, bne_self_eq_false, beq_self_eq_true, w64_id, cast_succ, Bool.false_eq_true, Bool.and_true, Bool.true_and, Bool.and_false, Bool.false_and, Bool.not_not]))
    (first | refine SW.condD rfl (fun h2 => ?_) (fun h2 => ?_) | refine SW.condN rfl (fun h2 => ?_) (fun h2 => ?_) | refine SW.condNB rfl (fun h2 => ?_) (fun h2 => ?_) | refine SW.condB rfl (fun h2 => ?_) (fun h2 => ?_))
    · repeat (first | (with_reducible refine SW.seq ?_) | (with_reducible refine SW.block ?_) | (with_reducible refine SW.rowC ?_) | (with_reducible refine SW.skip ?_) | (with_reducible refine SW.exit ?_) | (with_reducible intro _) | (with_reducible refine And.intro (by omega) ?_) | (simp (config := { maxSteps := 1000000 }) (disch := (first | omega | (simp only [go_sem]; try omega))) only [go_sem, ↓GSplit_t, ↓GSplit_f, ↓GSplit_tf, ↓GSplit_ft, Nat.reduceAdd, Nat.reduceEqDiff, Nat.reduceLeDiff, Nat.reduceMul, Nat.reduceLT, reduceIte, Int.reduceToNat, bne_self_eq_false, beq_self_eq_true, w64_id, cast_succ, Bool.false_eq_true, Bool.and_true, Bool.true_and, Bool.and_false, Bool.false_and, Bool.not_not]))
      refine SW.ret ?_; (try simp only [go_sem]); (first | refine FunPost.one ?_ | refine FunPost.two ?_ | refine FunPost.three ?_); (try simp (config := { maxSteps := 1000000 }) (disch := (first | omega | (simp only [go_sem]; try omega))) only [go_sem, ↓GSplit_t, ↓GSplit_f, ↓GSplit_tf, ↓GSplit_ft, Nat.reduceAdd, Nat.reduceEqDiff, Nat.reduceLeDiff, Nat.reduceMul, Nat.reduceLT, reduceIte, Int.reduceToNat, bne_self_eq_false, beq_self_eq_true, w64_id, cast_succ, Bool.false_eq_true, Bool.and_true, Bool.true_and, Bool.and_false, Bool.false_and, Bool.not_not]); (first | (with_reducible refine GR.drop ?_ ?_; (simp only [and_self, and_true, true_and, implies_true, Bel_lit, Bel_I, Bel_Bv, Bel_nil, Bel_junk, Bel_nm, Bel_pc, Bel_il, Bel_agg, Bel_tup, Bel_fn, Bel_el, all_mapI, all_mapB, all_mapS, all_nilB, all_consB, EB_nil, EB_cons, BB_nil, BB_cons, Bel_ilS, Bel_ilSS, Bel_ilB, List.getElem?_cons_zero, List.take_succ_cons, List.take_zero, keep_nil, keep_cons])) | refine GR.of ?_); refine ⟨?_, rfl⟩; (try with_reducible rfl)
      rw [coverB, h]; rfl
    · cases h2

/-- How often each of n items stands in a list. -/
def counts (n : Nat) (l : List Int) : List Int := (List.range n).map fun (i : Nat) => (l.count (i : Int) : Int)
theorem counts_nil (n : Nat) : List.replicate n (0 : Int) = counts n [] := by
  unfold counts; apply List.ext_getElem <;> simp
theorem counts_length (n : Nat) (l : List Int) : (counts n l).length = n := by simp [counts]
theorem counts_get (n : Nat) (l : List Int) (x : Int) (h0 : 0 ≤ x) (h1 : x < n) : (counts n l).getD x.toNat 0 = l.count x := by
  have : x.toNat < n := by omega
  simp [counts, this, Int.toNat_of_nonneg h0]
theorem counts_set (n : Nat) (l : List Int) (x : Int) (h0 : 0 ≤ x) : (counts n l).set x.toNat ((l.count x + 1 : Nat) : Int) = counts n (l ++ [x]) := by
  unfold counts
  apply List.ext_getElem
  · simp
  · intro i h1 h2
    simp only [List.getElem_set, List.getElem_map, List.getElem_range]
    split
    · rename_i h; subst h; simp [Int.toNat_of_nonneg h0, List.count_append]
    · rename_i h
      have : ¬ x = (i : Int) := by intro he; apply h; rw [he]; simp
      simp [List.count_append, List.count_singleton, this]
theorem counts_all {n : Nat} {l : List Int} (hl : ∀ x ∈ l, 0 ≤ x ∧ x < n) : (counts n l).all (fun c => decide (c = 1)) = (decide l.Nodup && !(marks n l).contains false) := by
  have e1 : (counts n l).all (fun c => decide (c = 1)) = true ↔ ∀ i : Nat, i < n → l.count (i : Int) = 1 := by
    simp only [List.all_eq_true, decide_eq_true_eq, counts, List.mem_map, List.mem_range, forall_exists_index, and_imp, forall_apply_eq_imp_iff₂]
    exact ⟨fun h i hi => by have := h i hi; omega, fun h i hi => by have := h i hi; omega⟩
  have e2 : (marks n l).contains false = false ↔ ∀ i : Nat, i < n → (i : Int) ∈ l := by
    rw [Bool.eq_false_iff]
    constructor
    · intro h i hi
      refine Decidable.byContradiction fun hc => h ?_
      rw [List.contains_iff_mem]
      exact List.mem_map.2 ⟨i, by simpa using hi, by simpa using hc⟩
    · intro h hc
      rw [List.contains_iff_mem] at hc
      obtain ⟨i, hi, h2⟩ := List.mem_map.1 hc
      simp at hi h2
      exact h2 (h i hi)
  rw [Bool.eq_iff_iff, e1, Bool.and_eq_true, decide_eq_true_eq, Bool.not_eq_true', e2]
  constructor
  · intro h
    refine ⟨List.nodup_iff_count.2 fun a => ?_, fun i hi => ?_⟩
    · by_cases ha : a ∈ l
      · have h1 := hl a ha
        have := h a.toNat (by omega)
        rw [Int.toNat_of_nonneg h1.1] at this
        omega
      · rw [List.count_eq_zero.2 ha]; omega
    · have := h i hi
      have h4 : 0 < l.count (i : Int) := by omega
      exact List.count_pos_iff.1 h4
  · rintro ⟨h1, h2⟩ i hi
    have := List.nodup_iff_count.1 h1 (i : Int)
    have := List.count_pos_iff.2 (h2 i hi)
    omega

theorem specIsCover_fn (n : Int) (xss : List (List Int)) (cols : List Int) (hx : ∀ xs ∈ xss, ∀ x ∈ xs, (Lit.int .i64 x).wf = true) (hx2 : ∀ x ∈ cols, (Lit.int .i64 x).wf = true) : PFn Try.prog f_spec_IsCover [.agg [I n, ilSS xss], ilS cols] (Bv (coverB n xss cols)) := by
  intro H; refine ACalls.introB s_spec_IsCover (by simp) ?_; intro hB hA; unfold c_spec_IsCover; simp (config := { maxSteps := 1000000 }) (disch := (first | omega | (simp only [go_sem]; try omega))) only [go_sem, ↓GSplit_t, ↓GSplit_f, ↓GSplit_tf, ↓GSplit_ft, Nat.reduceAdd, Nat.reduceEqDiff, Nat.reduceLeDiff, Nat.reduceMul, Nat.reduceLT, reduceIte, Int.reduceToNat, bne_self_eq_false, beq_self_eq_true, w64_id, cast_succ, Bool.false_eq_true, Bool.and_true, Bool.true_and, Bool.and_false, Bool.false_and, Bool.not_not]
  repeat (first | (with_reducible refine SW.seq ?_) | (with_reducible refine SW.block ?_) | (with_reducible refine SW.rowC ?_) | (with_reducible refine SW.skip ?_) | (with_reducible refine SW.exit ?_) | (with_reducible intro _) | (with_reducible refine And.intro (by omega) ?_) | (simp (config := { maxSteps := 1000000 }) (disch := (first | omega | (simp only [go_sem]; try omega))) only [go_sem, ↓GSplit_t, ↓GSplit_f, ↓GSplit_tf, ↓GSplit_ft, Nat.reduceAdd, Nat.reduceEqDiff, Nat.reduceLeDiff, Nat.reduceMul, Nat.reduceLT, reduceIte, Int.reduceToNat, bne_self_eq_false, beq_self_eq_true, w64_id, cast_succ, Bool.false_eq_true, Bool.and_true, Bool.true_and, Bool.and_false, Bool.false_and, Bool.not_not]))
  refine ACalls.fn (l24Ok_ok _ H.length 0 n xss hx (by simp)) ?_
  repeat (first | (with_reducible refine SW.seq ?_) | (with_reducible refine SW.block ?_) | (with_reducible refine SW.rowC ?_) | (with_reducible refine SW.skip ?_) | (with_reducible refine SW.exit ?_) | (with_reducible intro _) | (with_reducible refine And.intro (by omega) ?_) | (simp (config := { maxSteps := 1000000 }) (disch := (first | omega | (simp only [go_sem]; try omega))) only [go_sem, ↓GSplit_t, ↓GSplit_f, ↓GSplit_tf, ↓GSplit_ft, Nat.reduceAdd, Nat.reduceEqDiff, Nat.reduceLeDiff, Nat.reduceMul, Nat.reduceLT, reduceIte, Int.reduceToNat, bne_self_eq_false, beq_self_eq_true, w64_id, cast_succ, Bool.false_eq_true, Bool.and_true, Bool.true_and, Bool.and_false, Bool.false_and, Bool.not_not]))
  (first | refine GSplit.df (fun h => ?_) (fun h => ?_) | refine GSplit.dt (fun h => ?_) (fun h => ?_) | refine GSplit.ndf (fun h => ?_) (fun h => ?_) | refine GSplit.ndt (fun h => ?_) (fun h => ?_) | refine GSplit.nbf (fun h => ?_) (fun h => ?_) | refine GSplit.nbt (fun h => ?_) (fun h => ?_) | refine GSplit.bf (fun h => ?_) (fun h => ?_) | refine GSplit.bt (fun h => ?_) (fun h => ?_))
  rotate_left
  · repeat (first | (with_reducible refine SW.seq ?_) | (with_reducible refine SW.block ?_) | (with_reducible refine SW.rowC ?_) | (with_reducible refine SW.skip ?_) | (with_reducible refine SW.exit ?_) | (with_reducible intro _) | (with_reducible refine And.intro (by omega) ?_) | (simp (config := { maxSteps := 1000000 }) (disch := (first | omega | (simp only [go_sem]; try omega))) only [go_sem, ↓GSplit_t, ↓GSplit_f, ↓GSplit_tf, ↓GSplit_ft, Nat.reduceAdd, Nat.reduceEqDiff, Nat.reduceLeDiff, Nat.reduceMul, Nat.reduceLT, reduceIte, Int.reduceToNat, bne_self_eq_false, beq_self_eq_true, w64_id, cast_succ, Bool.false_eq_true, Bool.and_true, Bool.true_and, Bool.and_false, Bool.false_and, Bool.not_not]))
    (first | refine SW.condD rfl (fun h2 => ?_) (fun h2 => ?_) | refine SW.condN rfl (fun h2 => ?_) (fun h2 => ?_) | refine SW.condNB rfl (fun h2 => ?_) (fun h2 => ?_) | refine SW.condB rfl (fun h2 => ?_) (fun h2 => ?_))
    · repeat (first | (with_reducible refine SW.seq ?_) | (with_reducible refine SW.block ?_) | (with_reducible refine SW.rowC ?_) | (with_reducible refine SW.skip ?_) | (with_reducible refine SW.exit ?_) | (with_reducible intro _) | (with_reducible refine And.intro (by omega) ?_) | (simp (config := { maxSteps := 1000000 }) (disch := (first | omega | (simp only [go_sem]; try omega))) only [go_sem, ↓GSplit_t, ↓GSplit_f, ↓GSplit_tf, ↓GSplit_ft, Nat.reduceAdd, Nat.reduceEqDiff, Nat.reduceLeDiff, Nat.reduceMul, Nat.reduceLT, reduceIte, Int.reduceToNat, bne_self_eq_false, beq_self_eq_true, w64_id, cast_succ, Bool.false_eq_true, Bool.and_true, Bool.true_and, Bool.and_false, Bool.false_and, Bool.not_not]))
      refine SW.ret ?_; (try simp only [go_sem]); (first | refine FunPost.one ?_ | refine FunPost.two ?_ | refine FunPost.three ?_); (try simp (config := { maxSteps := 1000000 }) (disch := (first | omega | (simp only [go_sem]; try omega))) only [go_sem, ↓GSplit_t, ↓GSplit_f, ↓GSplit_tf, ↓GSplit_ft, Nat.reduceAdd, Nat.reduceEqDiff, Nat.reduceLeDiff, Nat.reduceMul, Nat.reduceLT, reduceIte, Int.reduceToNat, bne_self_eq_false, beq_self_eq_true, w64_id, cast_succ, Bool.false_eq_true, Bool.and_true, Bool.true_and, Bool.and_false, Bool.false_and, Bool.not_not]); (first | (with_reducible refine GR.drop ?_ ?_; (simp only [and_self, and_true, true_and, implies_true, Bel_lit, Bel_I, Bel_Bv, Bel_nil, Bel_junk, Bel_nm, Bel_pc, Bel_il, Bel_agg, Bel_tup, Bel_fn, Bel_el, all_mapI, all_mapB, all_mapS, all_nilB, all_consB, EB_nil, EB_cons, BB_nil, BB_cons, Bel_ilS, Bel_ilSS, Bel_ilB, List.getElem?_cons_zero, List.take_succ_cons, List.take_zero, keep_nil, keep_cons])) | refine GR.of ?_); refine ⟨?_, rfl⟩; (try with_reducible rfl)
      rw [coverB, h]; rfl
    · cases h2
  have hf := coverOk_facts h
  obtain ⟨m, rfl⟩ := Int.eq_ofNat_of_zero_le (show 0 ≤ n by omega)
  repeat (first | (with_reducible refine SW.seq ?_) | (with_reducible refine SW.block ?_) | (with_reducible refine SW.rowC ?_) | (with_reducible refine SW.skip ?_) | (with_reducible refine SW.exit ?_) | (with_reducible refine PFn.use (l00Rises_fn cols 0 _ hx2) ?_) | (with_reducible refine PFn.useq (l00Rises_fn cols 0 _ hx2) ?_) | (with_reducible intro _) | (with_reducible refine And.intro (by omega) ?_) | (simp (config := { maxSteps := 1000000 }) (disch := (first | omega | (simp only [go_sem]; try omega))) only [go_sem, ↓GSplit_t, ↓GSplit_f, ↓GSplit_tf, ↓GSplit_ft, Nat.reduceAdd, Nat.reduceEqDiff, Nat.reduceLeDiff, Nat.reduceMul, Nat.reduceLT, reduceIte, Int.reduceToNat, bne_self_eq_false, beq_self_eq_true, w64_id, cast_succ, Bool.false_eq_true, Bool.and_true, Bool.true_and, Bool.and_false, Bool.false_and, Bool.not_not]))
  (first | refine SW.condD rfl (fun h2 => ?_) (fun h2 => ?_) | refine SW.condN rfl (fun h2 => ?_) (fun h2 => ?_) | refine SW.condNB rfl (fun h2 => ?_) (fun h2 => ?_) | refine SW.condB rfl (fun h2 => ?_) (fun h2 => ?_))
  · repeat (first | (with_reducible refine SW.seq ?_) | (with_reducible refine SW.block ?_) | (with_reducible refine SW.rowC ?_) | (with_reducible refine SW.skip ?_) | (with_reducible refine SW.exit ?_) | (with_reducible intro _) | (with_reducible refine And.intro (by omega) ?_) | (simp (config := { maxSteps := 1000000 }) (disch := (first | omega | (simp only [go_sem]; try omega))) only [go_sem, ↓GSplit_t, ↓GSplit_f, ↓GSplit_tf, ↓GSplit_ft, Nat.reduceAdd, Nat.reduceEqDiff, Nat.reduceLeDiff, Nat.reduceMul, Nat.reduceLT, reduceIte, Int.reduceToNat, bne_self_eq_false, beq_self_eq_true, w64_id, cast_succ, Bool.false_eq_true, Bool.and_true, Bool.true_and, Bool.and_false, Bool.false_and, Bool.not_not]))
    refine SW.ret ?_; (try simp only [go_sem]); (first | refine FunPost.one ?_ | refine FunPost.two ?_ | refine FunPost.three ?_); (try simp (config := { maxSteps := 1000000 }) (disch := (first | omega | (simp only [go_sem]; try omega))) only [go_sem, ↓GSplit_t, ↓GSplit_f, ↓GSplit_tf, ↓GSplit_ft, Nat.reduceAdd, Nat.reduceEqDiff, Nat.reduceLeDiff, Nat.reduceMul, Nat.reduceLT, reduceIte, Int.reduceToNat, bne_self_eq_false, beq_self_eq_true, w64_id, cast_succ, Bool.false_eq_true, Bool.and_true, Bool.true_and, Bool.and_false, Bool.false_and, Bool.not_not]); (first | (with_reducible refine GR.drop ?_ ?_; (simp only [and_self, and_true, true_and, implies_true, Bel_lit, Bel_I, Bel_Bv, Bel_nil, Bel_junk, Bel_nm, Bel_pc, Bel_il, Bel_agg, Bel_tup, Bel_fn, Bel_el, all_mapI, all_mapB, all_mapS, all_nilB, all_consB, EB_nil, EB_cons, BB_nil, BB_cons, Bel_ilS, Bel_ilSS, Bel_ilB, List.getElem?_cons_zero, List.take_succ_cons, List.take_zero, keep_nil, keep_cons])) | refine GR.of ?_); refine ⟨?_, rfl⟩; (try with_reducible rfl)
    rw [coverB, h, h2]; rfl
  have ha := asc_mem h2
  have hcl : cols.length ≤ 256 := by rcases asc_len h2 with h3 | h3 <;> simp_all; omega
  have hset0 : ∀ k ∈ cols, (∀ x ∈ xss.getD k.toNat [], 0 ≤ x ∧ x < m) ∧ (xss.getD k.toNat []).length ≤ 64 := by
    intro k hk
    have h3 := ha k hk
    refine hf.2.2.2 _ ?_
    simp [List.getElem?_eq_getElem (show k.toNat < xss.length by omega)]
  repeat (first | (with_reducible refine SW.seq ?_) | (with_reducible refine SW.block ?_) | (with_reducible refine SW.rowC ?_) | (with_reducible refine SW.skip ?_) | (with_reducible refine SW.exit ?_) | (with_reducible intro _) | (with_reducible refine And.intro (by omega) ?_) | (simp (config := { maxSteps := 1000000 }) (disch := (first | omega | (simp only [go_sem]; try omega))) only [go_sem, ↓GSplit_t, ↓GSplit_f, ↓GSplit_tf, ↓GSplit_ft, Nat.reduceAdd, Nat.reduceEqDiff, Nat.reduceLeDiff, Nat.reduceMul, Nat.reduceLT, reduceIte, Int.reduceToNat, bne_self_eq_false, beq_self_eq_true, w64_id, cast_succ, Bool.false_eq_true, Bool.and_true, Bool.true_and, Bool.and_false, Bool.false_and, Bool.not_not]))
  rw [counts_nil]
  have hlen : ∀ (l : List Int), (∀ k ∈ l, k ∈ cols) → (itemsOf xss l).length ≤ 64 * l.length := by
    intro l hl
    induction l with
    | nil => simp [itemsOf]
    | cons k l ih =>
      have h3 := (hset0 k (hl k (by simp))).2
      have := ih (fun k hk => hl k (by simp [hk]))
      simp only [itemsOf, List.flatMap_cons, List.length_append, List.length_cons] at this ⊢
      omega
  refine SW.loopE (fun E0 H0 q E' H' => ∃ (pre post : List Int), cols = pre ++ post ∧ q = post.length ∧ E' = aput E0 6 (I pre.length) ∧ H' = H ++ [⟨0, 24, 1, [I m, ilSS xss]⟩, ⟨0, 2, 1, (counts m (itemsOf xss pre)).map I⟩]) cols.length ⟨[], cols, rfl, rfl, rfl, rfl⟩ ?_
  rintro q E' H' ⟨pre, post, hp, rfl, rfl, rfl⟩
  simp (config := { maxSteps := 1000000 }) (disch := (first | omega | (simp only [go_sem]; try omega))) only [go_sem, ↓GSplit_t, ↓GSplit_f, ↓GSplit_tf, ↓GSplit_ft, Nat.reduceAdd, Nat.reduceEqDiff, Nat.reduceLeDiff, Nat.reduceMul, Nat.reduceLT, reduceIte, Int.reduceToNat, bne_self_eq_false, beq_self_eq_true, w64_id, cast_succ, Bool.false_eq_true, Bool.and_true, Bool.true_and, Bool.and_false, Bool.false_and, Bool.not_not]
  repeat (first | (with_reducible refine SW.seq ?_) | (with_reducible refine SW.block ?_) | (with_reducible refine SW.rowC ?_) | (with_reducible refine SW.skip ?_) | (with_reducible refine SW.exit ?_) | (with_reducible intro _) | (with_reducible refine And.intro (by omega) ?_) | (simp (config := { maxSteps := 1000000 }) (disch := (first | omega | (simp only [go_sem]; try omega))) only [go_sem, ↓GSplit_t, ↓GSplit_f, ↓GSplit_tf, ↓GSplit_ft, Nat.reduceAdd, Nat.reduceEqDiff, Nat.reduceLeDiff, Nat.reduceMul, Nat.reduceLT, reduceIte, Int.reduceToNat, bne_self_eq_false, beq_self_eq_true, w64_id, cast_succ, Bool.false_eq_true, Bool.and_true, Bool.true_and, Bool.and_false, Bool.false_and, Bool.not_not]))
  (first | refine SW.condD rfl (fun h3 => ?_) (fun h3 => ?_) | refine SW.condN rfl (fun h3 => ?_) (fun h3 => ?_) | refine SW.condNB rfl (fun h3 => ?_) (fun h3 => ?_) | refine SW.condB rfl (fun h3 => ?_) (fun h3 => ?_))
  · cases post with
    | nil => exfalso; simp at hp; subst hp; omega
    | cons k post =>
      have hg : cols.getD pre.length 0 = k := by subst hp; simp
      have hk := ha k (by subst hp; simp)
      have hk2 := hset0 k (by subst hp; simp)
      have hpl := hlen pre (fun y hy => by subst hp; simp [hy])
      repeat (first | (with_reducible refine SW.seq ?_) | (with_reducible refine SW.block ?_) | (with_reducible refine SW.rowC ?_) | (with_reducible refine SW.skip ?_) | (with_reducible refine SW.exit ?_) | (with_reducible intro _) | (with_reducible refine And.intro (by omega) ?_) | (simp (config := { maxSteps := 1000000 }) (disch := (first | omega | (simp only [go_sem]; try omega))) only [go_sem, ↓GSplit_t, ↓GSplit_f, ↓GSplit_tf, ↓GSplit_ft, Nat.reduceAdd, Nat.reduceEqDiff, Nat.reduceLeDiff, Nat.reduceMul, Nat.reduceLT, reduceIte, Int.reduceToNat, bne_self_eq_false, beq_self_eq_true, w64_id, cast_succ, Bool.false_eq_true, Bool.and_true, Bool.true_and, Bool.and_false, Bool.false_and, Bool.not_not, hg]))
      generalize hset : xss.getD k.toNat [] = set at *
      refine SW.loopE (fun E0 H0 q E' H' => ∃ (pr po : List Int), set = pr ++ po ∧ q = po.length ∧ E' = aput E0 8 (I pr.length) ∧ H' = H ++ [⟨0, 24, 1, [I m, ilSS xss]⟩, ⟨0, 2, 1, (counts m (itemsOf xss pre ++ pr)).map I⟩]) set.length ⟨[], set, rfl, rfl, rfl, by simp⟩ ?_
      rintro q E' H' ⟨pr, po, hpx, rfl, rfl, rfl⟩
      simp (config := { maxSteps := 1000000 }) (disch := (first | omega | (simp only [go_sem]; try omega))) only [go_sem, ↓GSplit_t, ↓GSplit_f, ↓GSplit_tf, ↓GSplit_ft, Nat.reduceAdd, Nat.reduceEqDiff, Nat.reduceLeDiff, Nat.reduceMul, Nat.reduceLT, reduceIte, Int.reduceToNat, bne_self_eq_false, beq_self_eq_true, w64_id, cast_succ, Bool.false_eq_true, Bool.and_true, Bool.true_and, Bool.and_false, Bool.false_and, Bool.not_not]
      repeat (first | (with_reducible refine SW.seq ?_) | (with_reducible refine SW.block ?_) | (with_reducible refine SW.rowC ?_) | (with_reducible refine SW.skip ?_) | (with_reducible refine SW.exit ?_) | (with_reducible intro _) | (with_reducible refine And.intro (by omega) ?_) | (simp (config := { maxSteps := 1000000 }) (disch := (first | omega | (simp only [go_sem]; try omega))) only [go_sem, ↓GSplit_t, ↓GSplit_f, ↓GSplit_tf, ↓GSplit_ft, Nat.reduceAdd, Nat.reduceEqDiff, Nat.reduceLeDiff, Nat.reduceMul, Nat.reduceLT, reduceIte, Int.reduceToNat, bne_self_eq_false, beq_self_eq_true, w64_id, cast_succ, Bool.false_eq_true, Bool.and_true, Bool.true_and, Bool.and_false, Bool.false_and, Bool.not_not]))
      (first | refine SW.condD rfl (fun h6 => ?_) (fun h6 => ?_) | refine SW.condN rfl (fun h6 => ?_) (fun h6 => ?_) | refine SW.condNB rfl (fun h6 => ?_) (fun h6 => ?_) | refine SW.condB rfl (fun h6 => ?_) (fun h6 => ?_))
      · cases po with
        | nil => exfalso; simp at hpx; subst hpx; omega
        | cons y po =>
          have hgy : set.getD pr.length 0 = y := by subst hpx; simp
          have hy := hk2.1 y (by subst hpx; simp)
          have hll := counts_length m (itemsOf xss pre ++ pr)
          have htk : ((counts m (itemsOf xss pre ++ pr)).map I).take m = (counts m (itemsOf xss pre ++ pr)).map I := List.take_of_length_le (by simp [hll])
          have hcnt : (itemsOf xss pre ++ pr).count y ≤ 64 * 256 + 64 := by
            have h7 := List.count_le_length (a := y) (l := itemsOf xss pre ++ pr)
            rw [List.length_append] at h7
            omega
          repeat (first | (with_reducible refine SW.seq ?_) | (with_reducible refine SW.block ?_) | (with_reducible refine SW.rowC ?_) | (with_reducible refine SW.skip ?_) | (with_reducible refine SW.exit ?_) | (with_reducible intro _) | (with_reducible refine And.intro (by omega) ?_) | (simp (config := { maxSteps := 1000000 }) (disch := (first | omega | (simp only [go_sem]; try omega))) only [go_sem, ↓GSplit_t, ↓GSplit_f, ↓GSplit_tf, ↓GSplit_ft, Nat.reduceAdd, Nat.reduceEqDiff, Nat.reduceLeDiff, Nat.reduceMul, Nat.reduceLT, reduceIte, Int.reduceToNat, bne_self_eq_false, beq_self_eq_true, w64_id, cast_succ, Bool.false_eq_true, Bool.and_true, Bool.true_and, Bool.and_false, Bool.false_and, Bool.not_not, hgy, htk, counts_get m _ y hy.1 hy.2]))
          refine SLoop.next po.length (by simp) ⟨pr ++ [y], po, by simp [hpx], rfl, ?_, ?_⟩
          · simp [go_sem]
          · rw [counts_set m _ y hy.1, List.append_assoc]
      · have : po = [] := by cases po with
          | nil => rfl
          | cons y po => exfalso; subst hpx; simp at h6; omega
        subst this
        rw [List.append_nil] at hpx
        subst hpx
        repeat (first | (with_reducible refine SW.seq ?_) | (with_reducible refine SW.block ?_) | (with_reducible refine SW.rowC ?_) | (with_reducible refine SW.skip ?_) | (with_reducible refine SW.exit ?_) | (with_reducible intro _) | (with_reducible refine And.intro (by omega) ?_) | (simp (config := { maxSteps := 1000000 }) (disch := (first | omega | (simp only [go_sem]; try omega))) only [go_sem, ↓GSplit_t, ↓GSplit_f, ↓GSplit_tf, ↓GSplit_ft, Nat.reduceAdd, Nat.reduceEqDiff, Nat.reduceLeDiff, Nat.reduceMul, Nat.reduceLT, reduceIte, Int.reduceToNat, bne_self_eq_false, beq_self_eq_true, w64_id, cast_succ, Bool.false_eq_true, Bool.and_true, Bool.true_and, Bool.and_false, Bool.false_and, Bool.not_not]))
        refine SLoop.next post.length (by simp) ⟨pre ++ [k], post, by simp [hp], rfl, ?_, ?_⟩
        · simp [go_sem]
        · rw [itemsOf_snoc, hset]
  · have : post = [] := by cases post with
      | nil => rfl
      | cons x post => exfalso; subst hp; simp at h3; omega
    subst this
    rw [List.append_nil] at hp
    subst hp
    have hit : ∀ x ∈ itemsOf xss cols, 0 ≤ x ∧ x < m := by
      intro x hx3
      obtain ⟨k, hk, hxk⟩ := List.mem_flatMap.1 hx3
      exact (hset0 k hk).1 x hxk
    have hco : coverB m xss cols = (counts m (itemsOf xss cols)).all (fun c => decide (c = 1)) := by
      rw [counts_all hit, coverB, h, h2]; simp
    rw [hco]
    have hll := counts_length m (itemsOf xss cols)
    have htk : ((counts m (itemsOf xss cols)).map I).take m = (counts m (itemsOf xss cols)).map I := List.take_of_length_le (by simp [hll])
    generalize counts m (itemsOf xss cols) = cs at *
    repeat (first | (with_reducible refine SW.seq ?_) | (with_reducible refine SW.block ?_) | (with_reducible refine SW.rowC ?_) | (with_reducible refine SW.skip ?_) | (with_reducible refine SW.exit ?_) | (with_reducible intro _) | (with_reducible refine And.intro (by omega) ?_) | (simp (config := { maxSteps := 1000000 }) (disch := (first | omega | (simp only [go_sem]; try omega))) only [go_sem, ↓GSplit_t, ↓GSplit_f, ↓GSplit_tf, ↓GSplit_ft, Nat.reduceAdd, Nat.reduceEqDiff, Nat.reduceLeDiff, Nat.reduceMul, Nat.reduceLT, reduceIte, Int.reduceToNat, bne_self_eq_false, beq_self_eq_true, w64_id, cast_succ, Bool.false_eq_true, Bool.and_true, Bool.true_and, Bool.and_false, Bool.false_and, Bool.not_not]))
    refine SW.loopE (fun E0 H0 q E' H' => ∃ (pr po : List Int), cs = pr ++ po ∧ q = po.length ∧ E' = aput E0 9 (I pr.length) ∧ H' = H0 ∧ ∀ c ∈ pr, c = 1) m ⟨[], cs, rfl, hll.symm, rfl, rfl, by simp⟩ ?_
    rintro q E' H' ⟨pr, po, hpx, rfl, rfl, rfl, h1⟩
    simp (config := { maxSteps := 1000000 }) (disch := (first | omega | (simp only [go_sem]; try omega))) only [go_sem, ↓GSplit_t, ↓GSplit_f, ↓GSplit_tf, ↓GSplit_ft, Nat.reduceAdd, Nat.reduceEqDiff, Nat.reduceLeDiff, Nat.reduceMul, Nat.reduceLT, reduceIte, Int.reduceToNat, bne_self_eq_false, beq_self_eq_true, w64_id, cast_succ, Bool.false_eq_true, Bool.and_true, Bool.true_and, Bool.and_false, Bool.false_and, Bool.not_not]
    repeat (first | (with_reducible refine SW.seq ?_) | (with_reducible refine SW.block ?_) | (with_reducible refine SW.rowC ?_) | (with_reducible refine SW.skip ?_) | (with_reducible refine SW.exit ?_) | (with_reducible intro _) | (with_reducible refine And.intro (by omega) ?_) | (simp (config := { maxSteps := 1000000 }) (disch := (first | omega | (simp only [go_sem]; try omega))) only [go_sem, ↓GSplit_t, ↓GSplit_f, ↓GSplit_tf, ↓GSplit_ft, Nat.reduceAdd, Nat.reduceEqDiff, Nat.reduceLeDiff, Nat.reduceMul, Nat.reduceLT, reduceIte, Int.reduceToNat, bne_self_eq_false, beq_self_eq_true, w64_id, cast_succ, Bool.false_eq_true, Bool.and_true, Bool.true_and, Bool.and_false, Bool.false_and, Bool.not_not, htk]))
    (first | refine SW.condD rfl (fun h6 => ?_) (fun h6 => ?_) | refine SW.condN rfl (fun h6 => ?_) (fun h6 => ?_) | refine SW.condNB rfl (fun h6 => ?_) (fun h6 => ?_) | refine SW.condB rfl (fun h6 => ?_) (fun h6 => ?_))
    · cases po with
      | nil => exfalso; simp at hpx; subst hpx; omega
      | cons y po =>
        have hgy : cs.getD pr.length 0 = y := by subst hpx; simp
        repeat (first | (with_reducible refine SW.seq ?_) | (with_reducible refine SW.block ?_) | (with_reducible refine SW.rowC ?_) | (with_reducible refine SW.skip ?_) | (with_reducible refine SW.exit ?_) | (with_reducible intro _) | (with_reducible refine And.intro (by omega) ?_) | (simp (config := { maxSteps := 1000000 }) (disch := (first | omega | (simp only [go_sem]; try omega))) only [go_sem, ↓GSplit_t, ↓GSplit_f, ↓GSplit_tf, ↓GSplit_ft, Nat.reduceAdd, Nat.reduceEqDiff, Nat.reduceLeDiff, Nat.reduceMul, Nat.reduceLT, reduceIte, Int.reduceToNat, bne_self_eq_false, beq_self_eq_true, w64_id, cast_succ, Bool.false_eq_true, Bool.and_true, Bool.true_and, Bool.and_false, Bool.false_and, Bool.not_not, hgy, htk]))
        (first | refine SW.condD rfl (fun h7 => ?_) (fun h7 => ?_) | refine SW.condN rfl (fun h7 => ?_) (fun h7 => ?_) | refine SW.condNB rfl (fun h7 => ?_) (fun h7 => ?_) | refine SW.condB rfl (fun h7 => ?_) (fun h7 => ?_))
        · repeat (first | (with_reducible refine SW.seq ?_) | (with_reducible refine SW.block ?_) | (with_reducible refine SW.rowC ?_) | (with_reducible refine SW.skip ?_) | (with_reducible refine SW.exit ?_) | (with_reducible intro _) | (with_reducible refine And.intro (by omega) ?_) | (simp (config := { maxSteps := 1000000 }) (disch := (first | omega | (simp only [go_sem]; try omega))) only [go_sem, ↓GSplit_t, ↓GSplit_f, ↓GSplit_tf, ↓GSplit_ft, Nat.reduceAdd, Nat.reduceEqDiff, Nat.reduceLeDiff, Nat.reduceMul, Nat.reduceLT, reduceIte, Int.reduceToNat, bne_self_eq_false, beq_self_eq_true, w64_id, cast_succ, Bool.false_eq_true, Bool.and_true, Bool.true_and, Bool.and_false, Bool.false_and, Bool.not_not]))
          refine SW.ret ?_; (try simp only [go_sem]); (first | refine FunPost.one ?_ | refine FunPost.two ?_ | refine FunPost.three ?_); (try simp (config := { maxSteps := 1000000 }) (disch := (first | omega | (simp only [go_sem]; try omega))) only [go_sem, ↓GSplit_t, ↓GSplit_f, ↓GSplit_tf, ↓GSplit_ft, Nat.reduceAdd, Nat.reduceEqDiff, Nat.reduceLeDiff, Nat.reduceMul, Nat.reduceLT, reduceIte, Int.reduceToNat, bne_self_eq_false, beq_self_eq_true, w64_id, cast_succ, Bool.false_eq_true, Bool.and_true, Bool.true_and, Bool.and_false, Bool.false_and, Bool.not_not]); (first | (with_reducible refine GR.drop ?_ ?_; (simp only [and_self, and_true, true_and, implies_true, Bel_lit, Bel_I, Bel_Bv, Bel_nil, Bel_junk, Bel_nm, Bel_pc, Bel_il, Bel_agg, Bel_tup, Bel_fn, Bel_el, all_mapI, all_mapB, all_mapS, all_nilB, all_consB, EB_nil, EB_cons, BB_nil, BB_cons, Bel_ilS, Bel_ilSS, Bel_ilB, List.getElem?_cons_zero, List.take_succ_cons, List.take_zero, keep_nil, keep_cons])) | refine GR.of ?_); refine ⟨?_, rfl⟩; (try with_reducible rfl)
          symm
          refine congrArg Bv ?_
          rw [List.all_eq_false]
          exact ⟨y, by subst hpx; simp, by simpa using h7⟩
        · repeat (first | (with_reducible refine SW.seq ?_) | (with_reducible refine SW.block ?_) | (with_reducible refine SW.rowC ?_) | (with_reducible refine SW.skip ?_) | (with_reducible refine SW.exit ?_) | (with_reducible intro _) | (with_reducible refine And.intro (by omega) ?_) | (simp (config := { maxSteps := 1000000 }) (disch := (first | omega | (simp only [go_sem]; try omega))) only [go_sem, ↓GSplit_t, ↓GSplit_f, ↓GSplit_tf, ↓GSplit_ft, Nat.reduceAdd, Nat.reduceEqDiff, Nat.reduceLeDiff, Nat.reduceMul, Nat.reduceLT, reduceIte, Int.reduceToNat, bne_self_eq_false, beq_self_eq_true, w64_id, cast_succ, Bool.false_eq_true, Bool.and_true, Bool.true_and, Bool.and_false, Bool.false_and, Bool.not_not]))
          refine SLoop.next po.length (by simp) ⟨pr ++ [y], po, by simp [hpx], rfl, ?_, rfl, ?_⟩
          · simp [go_sem]
          · intro c hc
            rcases List.mem_append.1 hc with hc | hc
            · exact h1 c hc
            · rw [List.mem_singleton.1 hc]; exact h7
    · have : po = [] := by cases po with
        | nil => rfl
        | cons y po => exfalso; subst hpx; simp at h6 hll; omega
      subst this
      rw [List.append_nil] at hpx
      repeat (first | (with_reducible refine SW.seq ?_) | (with_reducible refine SW.block ?_) | (with_reducible refine SW.rowC ?_) | (with_reducible refine SW.skip ?_) | (with_reducible refine SW.exit ?_) | (with_reducible intro _) | (with_reducible refine And.intro (by omega) ?_) | (simp (config := { maxSteps := 1000000 }) (disch := (first | omega | (simp only [go_sem]; try omega))) only [go_sem, ↓GSplit_t, ↓GSplit_f, ↓GSplit_tf, ↓GSplit_ft, Nat.reduceAdd, Nat.reduceEqDiff, Nat.reduceLeDiff, Nat.reduceMul, Nat.reduceLT, reduceIte, Int.reduceToNat, bne_self_eq_false, beq_self_eq_true, w64_id, cast_succ, Bool.false_eq_true, Bool.and_true, Bool.true_and, Bool.and_false, Bool.false_and, Bool.not_not]))
      refine SW.ret ?_; (try simp only [go_sem]); (first | refine FunPost.one ?_ | refine FunPost.two ?_ | refine FunPost.three ?_); (try simp (config := { maxSteps := 1000000 }) (disch := (first | omega | (simp only [go_sem]; try omega))) only [go_sem, ↓GSplit_t, ↓GSplit_f, ↓GSplit_tf, ↓GSplit_ft, Nat.reduceAdd, Nat.reduceEqDiff, Nat.reduceLeDiff, Nat.reduceMul, Nat.reduceLT, reduceIte, Int.reduceToNat, bne_self_eq_false, beq_self_eq_true, w64_id, cast_succ, Bool.false_eq_true, Bool.and_true, Bool.true_and, Bool.and_false, Bool.false_and, Bool.not_not]); (first | (with_reducible refine GR.drop ?_ ?_; (simp only [and_self, and_true, true_and, implies_true, Bel_lit, Bel_I, Bel_Bv, Bel_nil, Bel_junk, Bel_nm, Bel_pc, Bel_il, Bel_agg, Bel_tup, Bel_fn, Bel_el, all_mapI, all_mapB, all_mapS, all_nilB, all_consB, EB_nil, EB_cons, BB_nil, BB_cons, Bel_ilS, Bel_ilSS, Bel_ilB, List.getElem?_cons_zero, List.take_succ_cons, List.take_zero, keep_nil, keep_cons])) | refine GR.of ?_); refine ⟨?_, rfl⟩; (try with_reducible rfl)
      symm
      refine congrArg Bv ?_
      rw [List.all_eq_true, hpx]
      intro c hc; simpa using h1 c hc

theorem lawIsCover_ok (H : List Blk) (n : Int) (xss : List (List Int)) (cols : List Int) (hx : ∀ xs ∈ xss, ∀ x ∈ xs, (Lit.int .i64 x).wf = true) (hx2 : ∀ x ∈ cols, (Lit.int .i64 x).wf = true) : ACalls Try.prog f_laws_FnExactIsCover [.agg [I n, ilSS xss], ilS cols] H (fun r _ => r = Bv true) := by
  refine ACalls.introB s_laws_FnExactIsCover (by simp) ?_; intro hB hA; unfold c_laws_FnExactIsCover; simp (config := { maxSteps := 1000000 }) (disch := (first | omega | (simp only [go_sem]; try omega))) only [go_sem, ↓GSplit_t, ↓GSplit_f, ↓GSplit_tf, ↓GSplit_ft, Nat.reduceAdd, Nat.reduceEqDiff, Nat.reduceLeDiff, Nat.reduceMul, Nat.reduceLT, reduceIte, Int.reduceToNat, bne_self_eq_false, beq_self_eq_true, w64_id, cast_succ, Bool.false_eq_true, Bool.and_true, Bool.true_and, Bool.and_false, Bool.false_and, Bool.not_not]
  repeat (first | (with_reducible refine SW.seq ?_) | (with_reducible refine SW.block ?_) | (with_reducible refine SW.rowC ?_) | (with_reducible refine SW.skip ?_) | (with_reducible refine SW.exit ?_) | (with_reducible intro _) | (with_reducible refine And.intro (by omega) ?_) | (simp (config := { maxSteps := 1000000 }) (disch := (first | omega | (simp only [go_sem]; try omega))) only [go_sem, ↓GSplit_t, ↓GSplit_f, ↓GSplit_tf, ↓GSplit_ft, Nat.reduceAdd, Nat.reduceEqDiff, Nat.reduceLeDiff, Nat.reduceMul, Nat.reduceLT, reduceIte, Int.reduceToNat, bne_self_eq_false, beq_self_eq_true, w64_id, cast_succ, Bool.false_eq_true, Bool.and_true, Bool.true_and, Bool.and_false, Bool.false_and, Bool.not_not]))
  (first | refine SW.condD rfl (fun h => ?_) (fun h => ?_) | refine SW.condN rfl (fun h => ?_) (fun h => ?_) | refine SW.condNB rfl (fun h => ?_) (fun h => ?_) | refine SW.condB rfl (fun h => ?_) (fun h => ?_))
  · repeat (first | (with_reducible refine SW.seq ?_) | (with_reducible refine SW.block ?_) | (with_reducible refine SW.rowC ?_) | (with_reducible refine SW.skip ?_) | (with_reducible refine SW.exit ?_) | (with_reducible intro _) | (with_reducible refine And.intro (by omega) ?_) | (simp (config := { maxSteps := 1000000 }) (disch := (first | omega | (simp only [go_sem]; try omega))) only [go_sem, ↓GSplit_t, ↓GSplit_f, ↓GSplit_tf, ↓GSplit_ft, Nat.reduceAdd, Nat.reduceEqDiff, Nat.reduceLeDiff, Nat.reduceMul, Nat.reduceLT, reduceIte, Int.reduceToNat, bne_self_eq_false, beq_self_eq_true, w64_id, cast_succ, Bool.false_eq_true, Bool.and_true, Bool.true_and, Bool.and_false, Bool.false_and, Bool.not_not]))
    refine SW.ret ?_; (try simp only [go_sem]); (first | refine FunPost.one ?_ | refine FunPost.two ?_ | refine FunPost.three ?_); (try simp (config := { maxSteps := 1000000 }) (disch := (first | omega | (simp only [go_sem]; try omega))) only [go_sem, ↓GSplit_t, ↓GSplit_f, ↓GSplit_tf, ↓GSplit_ft, Nat.reduceAdd, Nat.reduceEqDiff, Nat.reduceLeDiff, Nat.reduceMul, Nat.reduceLT, reduceIte, Int.reduceToNat, bne_self_eq_false, beq_self_eq_true, w64_id, cast_succ, Bool.false_eq_true, Bool.and_true, Bool.true_and, Bool.and_false, Bool.false_and, Bool.not_not])
    exact GR.of rfl
  repeat (first | (with_reducible refine SW.seq ?_) | (with_reducible refine SW.block ?_) | (with_reducible refine SW.rowC ?_) | (with_reducible refine SW.skip ?_) | (with_reducible refine SW.exit ?_) | (with_reducible intro _) | (with_reducible refine And.intro (by omega) ?_) | (simp (config := { maxSteps := 1000000 }) (disch := (first | omega | (simp only [go_sem]; try omega))) only [go_sem, ↓GSplit_t, ↓GSplit_f, ↓GSplit_tf, ↓GSplit_ft, Nat.reduceAdd, Nat.reduceEqDiff, Nat.reduceLeDiff, Nat.reduceMul, Nat.reduceLT, reduceIte, Int.reduceToNat, bne_self_eq_false, beq_self_eq_true, w64_id, cast_succ, Bool.false_eq_true, Bool.and_true, Bool.true_and, Bool.and_false, Bool.false_and, Bool.not_not]))
  refine (szCover_ok _ n _ xss _ rfl (rd_ilSS _ _) (by omega) (by omega)).mono ?_
  rintro r H' ⟨⟨z, rfl, g1, g2, g3⟩, rfl⟩
  repeat (first | (with_reducible refine SW.seq ?_) | (with_reducible refine SW.block ?_) | (with_reducible refine SW.rowC ?_) | (with_reducible refine SW.skip ?_) | (with_reducible refine SW.exit ?_) | (with_reducible intro _) | (with_reducible refine And.intro (by omega) ?_) | (simp (config := { maxSteps := 1000000 }) (disch := (first | omega | (simp only [go_sem]; try omega))) only [go_sem, ↓GSplit_t, ↓GSplit_f, ↓GSplit_tf, ↓GSplit_ft, Nat.reduceAdd, Nat.reduceEqDiff, Nat.reduceLeDiff, Nat.reduceMul, Nat.reduceLT, reduceIte, Int.reduceToNat, bne_self_eq_false, beq_self_eq_true, w64_id, cast_succ, Bool.false_eq_true, Bool.and_true, Bool.true_and, Bool.and_false, Bool.false_and, Bool.not_not]))
  (first | refine SW.condD rfl (fun h2 => ?_) (fun h2 => ?_) | refine SW.condN rfl (fun h2 => ?_) (fun h2 => ?_) | refine SW.condNB rfl (fun h2 => ?_) (fun h2 => ?_) | refine SW.condB rfl (fun h2 => ?_) (fun h2 => ?_))
  · repeat (first | (with_reducible refine SW.seq ?_) | (with_reducible refine SW.block ?_) | (with_reducible refine SW.rowC ?_) | (with_reducible refine SW.skip ?_) | (with_reducible refine SW.exit ?_) | (with_reducible intro _) | (with_reducible refine And.intro (by omega) ?_) | (simp (config := { maxSteps := 1000000 }) (disch := (first | omega | (simp only [go_sem]; try omega))) only [go_sem, ↓GSplit_t, ↓GSplit_f, ↓GSplit_tf, ↓GSplit_ft, Nat.reduceAdd, Nat.reduceEqDiff, Nat.reduceLeDiff, Nat.reduceMul, Nat.reduceLT, reduceIte, Int.reduceToNat, bne_self_eq_false, beq_self_eq_true, w64_id, cast_succ, Bool.false_eq_true, Bool.and_true, Bool.true_and, Bool.and_false, Bool.false_and, Bool.not_not]))
    refine SW.ret ?_; (try simp only [go_sem]); (first | refine FunPost.one ?_ | refine FunPost.two ?_ | refine FunPost.three ?_); (try simp (config := { maxSteps := 1000000 }) (disch := (first | omega | (simp only [go_sem]; try omega))) only [go_sem, ↓GSplit_t, ↓GSplit_f, ↓GSplit_tf, ↓GSplit_ft, Nat.reduceAdd, Nat.reduceEqDiff, Nat.reduceLeDiff, Nat.reduceMul, Nat.reduceLT, reduceIte, Int.reduceToNat, bne_self_eq_false, beq_self_eq_true, w64_id, cast_succ, Bool.false_eq_true, Bool.and_true, Bool.true_and, Bool.and_false, Bool.false_and, Bool.not_not])
    exact GR.of rfl
  have hsx := small_rows (by omega) (g3 (by omega)) (by omega)
  have t1 := toCover_fn n xss hsx.1 hsx.2
  have t2 := toInt64S_fn cols (by omega)
  repeat (first | (with_reducible refine SW.seq ?_) | (with_reducible refine SW.block ?_) | (with_reducible refine SW.rowC ?_) | (with_reducible refine SW.skip ?_) | (with_reducible refine SW.exit ?_) | (with_reducible refine PFn.use (t1) ?_) | (with_reducible refine PFn.useq (t1) ?_) | (with_reducible refine PFn.use (t2) ?_) | (with_reducible refine PFn.useq (t2) ?_) | (with_reducible refine PFn.use (specIsCover_fn n xss cols hx hx2) ?_) | (with_reducible refine PFn.useq (specIsCover_fn n xss cols hx hx2) ?_) | (with_reducible refine PFn.use (implIsCover_fn n xss cols hx hx2 hsx.1) ?_) | (with_reducible refine PFn.useq (implIsCover_fn n xss cols hx hx2 hsx.1) ?_) | (with_reducible intro _) | (with_reducible refine And.intro (by omega) ?_) | (simp (config := { maxSteps := 1000000 }) (disch := (first | omega | (simp only [go_sem]; try omega))) only [go_sem, ↓GSplit_t, ↓GSplit_f, ↓GSplit_tf, ↓GSplit_ft, Nat.reduceAdd, Nat.reduceEqDiff, Nat.reduceLeDiff, Nat.reduceMul, Nat.reduceLT, reduceIte, Int.reduceToNat, bne_self_eq_false, beq_self_eq_true, w64_id, cast_succ, Bool.false_eq_true, Bool.and_true, Bool.true_and, Bool.and_false, Bool.false_and, Bool.not_not]))
  (first | refine SW.condD rfl (fun h3 => ?_) (fun h3 => ?_) | refine SW.condN rfl (fun h3 => ?_) (fun h3 => ?_) | refine SW.condNB rfl (fun h3 => ?_) (fun h3 => ?_) | refine SW.condB rfl (fun h3 => ?_) (fun h3 => ?_))
  · simp at h3
  repeat (first | (with_reducible refine SW.seq ?_) | (with_reducible refine SW.block ?_) | (with_reducible refine SW.rowC ?_) | (with_reducible refine SW.skip ?_) | (with_reducible refine SW.exit ?_) | (with_reducible refine PFn.use (t1) ?_) | (with_reducible refine PFn.useq (t1) ?_) | (with_reducible refine PFn.use (eqCover_fn2 n xss) ?_) | (with_reducible refine PFn.useq (eqCover_fn2 n xss) ?_) | (with_reducible intro _) | (with_reducible refine And.intro (by omega) ?_) | (simp (config := { maxSteps := 1000000 }) (disch := (first | omega | (simp only [go_sem]; try omega))) only [go_sem, ↓GSplit_t, ↓GSplit_f, ↓GSplit_tf, ↓GSplit_ft, Nat.reduceAdd, Nat.reduceEqDiff, Nat.reduceLeDiff, Nat.reduceMul, Nat.reduceLT, reduceIte, Int.reduceToNat, bne_self_eq_false, beq_self_eq_true, w64_id, cast_succ, Bool.false_eq_true, Bool.and_true, Bool.true_and, Bool.and_false, Bool.false_and, Bool.not_not]))
  (first | refine SW.condD rfl (fun h3 => ?_) (fun h3 => ?_) | refine SW.condN rfl (fun h3 => ?_) (fun h3 => ?_) | refine SW.condNB rfl (fun h3 => ?_) (fun h3 => ?_) | refine SW.condB rfl (fun h3 => ?_) (fun h3 => ?_))
  · cases h3
  repeat (first | (with_reducible refine SW.seq ?_) | (with_reducible refine SW.block ?_) | (with_reducible refine SW.rowC ?_) | (with_reducible refine SW.skip ?_) | (with_reducible refine SW.exit ?_) | (with_reducible refine PFn.use (t2) ?_) | (with_reducible refine PFn.useq (t2) ?_) | (with_reducible refine PFn.use (eqInt64S_fn2 cols) ?_) | (with_reducible refine PFn.useq (eqInt64S_fn2 cols) ?_) | (with_reducible intro _) | (with_reducible refine And.intro (by omega) ?_) | (simp (config := { maxSteps := 1000000 }) (disch := (first | omega | (simp only [go_sem]; try omega))) only [go_sem, ↓GSplit_t, ↓GSplit_f, ↓GSplit_tf, ↓GSplit_ft, Nat.reduceAdd, Nat.reduceEqDiff, Nat.reduceLeDiff, Nat.reduceMul, Nat.reduceLT, reduceIte, Int.reduceToNat, bne_self_eq_false, beq_self_eq_true, w64_id, cast_succ, Bool.false_eq_true, Bool.and_true, Bool.true_and, Bool.and_false, Bool.false_and, Bool.not_not]))
  (first | refine SW.condD rfl (fun h3 => ?_) (fun h3 => ?_) | refine SW.condN rfl (fun h3 => ?_) (fun h3 => ?_) | refine SW.condNB rfl (fun h3 => ?_) (fun h3 => ?_) | refine SW.condB rfl (fun h3 => ?_) (fun h3 => ?_))
  · cases h3
  repeat (first | (with_reducible refine SW.seq ?_) | (with_reducible refine SW.block ?_) | (with_reducible refine SW.rowC ?_) | (with_reducible refine SW.skip ?_) | (with_reducible refine SW.exit ?_) | (with_reducible intro _) | (with_reducible refine And.intro (by omega) ?_) | (simp (config := { maxSteps := 1000000 }) (disch := (first | omega | (simp only [go_sem]; try omega))) only [go_sem, ↓GSplit_t, ↓GSplit_f, ↓GSplit_tf, ↓GSplit_ft, Nat.reduceAdd, Nat.reduceEqDiff, Nat.reduceLeDiff, Nat.reduceMul, Nat.reduceLT, reduceIte, Int.reduceToNat, bne_self_eq_false, beq_self_eq_true, w64_id, cast_succ, Bool.false_eq_true, Bool.and_true, Bool.true_and, Bool.and_false, Bool.false_and, Bool.not_not]))
  refine SW.ret ?_; (try simp only [go_sem]); (first | refine FunPost.one ?_ | refine FunPost.two ?_ | refine FunPost.three ?_); (try simp (config := { maxSteps := 1000000 }) (disch := (first | omega | (simp only [go_sem]; try omega))) only [go_sem, ↓GSplit_t, ↓GSplit_f, ↓GSplit_tf, ↓GSplit_ft, Nat.reduceAdd, Nat.reduceEqDiff, Nat.reduceLeDiff, Nat.reduceMul, Nat.reduceLT, reduceIte, Int.reduceToNat, bne_self_eq_false, beq_self_eq_true, w64_id, cast_succ, Bool.false_eq_true, Bool.and_true, Bool.true_and, Bool.and_false, Bool.false_and, Bool.not_not])
  exact GR.of rfl
end Go.Proofs.Ytmgbglekgigkmaa
