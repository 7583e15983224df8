/- MADE BY PROGRAM (wip/gen.sh, wip/Gen.lean.tpl): the abstract code of functions, tied to the program by the kernel. -/
import Derived.Test.YtmgbglekgigkmaaAv11
import Derived.Test.YtmgbglekgigkmaaProg
import Derived.KernelRfl
namespace Go.Proofs.Ytmgbglekgigkmaa
open Go.Av

/-- loop.example/g00920/laws.FnExactIsCover -/
abbrev f_laws_FnExactIsCover : Nat := 12
def c_laws_FnExactIsCover : SC :=
 .seq (.reg [
     ⟨(some 2), .box 30 (.tmp 0), none⟩,
     ⟨(some 4), .mv (.const (.bool false)), none⟩] [1, 2])
 (.seq (.seq (.reg [
     ⟨(some 10), .mv (.tmp 1), none⟩,
     ⟨(some 11), .len (.tmp 10), none⟩,
     ⟨(some 12), .bin .gtr (.tmp 11) (.const (.int .i64 1048576)), none⟩] [1, 2, 12])
 (.cond (.tmp 12)
  (.seq (.reg [
      ⟨(some 4), .mv (.const (.bool true)), none⟩] [4])
  (.ret))
  (.skip)))
 (.seq (.reg [
     ⟨(some 5), .mv (.const (.int .i64 1048576)), none⟩] [1, 2, 5])
 (.seq (.reg [
     ⟨(some 13), .load 2 true (.tmp 2), none⟩,
     ⟨(some 14), .mv (.tmp 5), none⟩,
     ⟨(some 15), .call 20 [(.tmp 13), (.tmp 14)], none⟩,
     ⟨(some 5), .mv (.tmp 15), none⟩] [1, 2, 5])
 (.seq (.seq (.reg [
     ⟨(some 16), .mv (.tmp 5), none⟩,
     ⟨(some 17), .bin .lss (.tmp 16) (.const (.int .i64 0)), none⟩] [1, 2, 17])
 (.cond (.tmp 17)
  (.seq (.reg [
      ⟨(some 4), .mv (.const (.bool true)), none⟩] [4])
  (.ret))
  (.skip)))
 (.seq (.reg [
     ⟨(some 18), .load 2 true (.tmp 2), none⟩,
     ⟨(some 19), .call 22 [(.tmp 18)], none⟩,
     ⟨(some 20), .mv (.tmp 1), none⟩,
     ⟨(some 21), .call 34 [(.tmp 20)], none⟩,
     ⟨(some 22), .call 49 [(.tmp 19), (.tmp 21)], none⟩,
     ⟨(some 6), .mv (.tmp 22), none⟩] [1, 2, 6])
 (.seq (.reg [
     ⟨(some 23), .load 2 true (.tmp 2), none⟩,
     ⟨(some 24), .call 22 [(.tmp 23)], none⟩,
     ⟨(some 7), .alloc 24 [(.int .i64 0), (.slice none 0 0)], none⟩,
     ⟨none, .store 2 (.tmp 7) (.tmp 24), none⟩] [1, 2, 6, 7])
 (.seq (.reg [
     ⟨(some 25), .mv (.tmp 1), none⟩,
     ⟨(some 26), .call 34 [(.tmp 25)], none⟩,
     ⟨(some 8), .mv (.tmp 26), none⟩] [1, 2, 6, 7, 8])
 (.seq (.reg [
     ⟨(some 27), .load 2 true (.tmp 7), none⟩,
     ⟨(some 28), .mv (.tmp 8), none⟩,
     ⟨(some 29), .call 50 [(.tmp 27), (.tmp 28)], none⟩,
     ⟨(some 9), .mv (.tmp 29), none⟩] [1, 2, 6, 7, 8, 9])
 (.seq (.seq (.reg [
     ⟨(some 30), .mv (.tmp 9), none⟩,
     ⟨(some 31), .mv (.tmp 6), none⟩,
     ⟨(some 32), .binb true (.tmp 30) (.tmp 31), none⟩] [1, 2, 7, 8, 32])
 (.cond (.tmp 32)
  (.seq (.reg [
      ⟨(some 4), .mv (.const (.bool false)), none⟩] [4])
  (.ret))
  (.skip)))
 (.seq (.seq (.reg [
     ⟨(some 33), .load 2 true (.tmp 7), none⟩,
     ⟨(some 34), .load 2 true (.tmp 2), none⟩,
     ⟨(some 35), .qcall 22 [(.tmp 34)], none⟩,
     ⟨(some 36), .qcall 17 [(.tmp 33), (.tmp 35)], none⟩,
     ⟨(some 37), .un .not (.tmp 36), none⟩] [1, 8, 37])
 (.cond (.tmp 37)
  (.seq (.reg [
      ⟨(some 4), .mv (.const (.bool false)), none⟩] [4])
  (.ret))
  (.skip)))
 (.seq (.seq (.reg [
     ⟨(some 38), .mv (.tmp 8), none⟩,
     ⟨(some 39), .mv (.tmp 1), none⟩,
     ⟨(some 40), .call 34 [(.tmp 39)], none⟩,
     ⟨(some 41), .call 36 [(.tmp 38), (.tmp 40)], none⟩,
     ⟨(some 42), .un .not (.tmp 41), none⟩] [42])
 (.cond (.tmp 42)
  (.seq (.reg [
      ⟨(some 4), .mv (.const (.bool false)), none⟩] [4])
  (.ret))
  (.skip)))
 (.seq (.reg [
     ⟨(some 4), .mv (.const (.bool true)), none⟩] [4])
 (.ret)))))))))))))
theorem s_laws_FnExactIsCover : stripF Try.prog 12 [[1, 2], [1, 2, 12], [4], [1, 2, 5], [1, 2, 5], [1, 2, 17], [4], [1, 2, 6], [1, 2, 6, 7], [1, 2, 6, 7, 8], [1, 2, 6, 7, 8, 9], [1, 2, 7, 8, 32], [4], [1, 8, 37], [4], [42], [4], [4]] = some (c_laws_FnExactIsCover, [.tmp 4], 43) := by kernel_rfl

/-- loop.example/g00920/spec.IsCover -/
abbrev f_spec_IsCover : Nat := 49
def c_spec_IsCover : SC :=
 .seq (.reg [
     ⟨(some 2), .box 24 (.tmp 0), none⟩,
     ⟨(some 4), .mv (.const (.bool false)), none⟩] [1, 2])
 (.seq (.seq (.reg [
     ⟨(some 10), .call 64 [(.tmp 2)], none⟩,
     ⟨(some 11), .un .not (.tmp 10), none⟩,
     ⟨(some 12), .mv (.tmp 11), none⟩,
     ⟨(some 13), .mv (.tmp 1), (some (12, false))⟩,
     ⟨(some 14), .faddr 1 (.tmp 2), (some (12, false))⟩,
     ⟨(some 15), .load 1 false (.tmp 14), (some (12, false))⟩,
     ⟨(some 16), .len (.tmp 15), (some (12, false))⟩,
     ⟨(some 17), .bin .sub (.tmp 16) (.const (.int .i64 1)), (some (12, false))⟩,
     ⟨(some 18), .call 100 [(.tmp 13), (.const (.int .i64 0)), (.tmp 17)], (some (12, false))⟩,
     ⟨(some 19), .un .not (.tmp 18), (some (12, false))⟩,
     ⟨(some 20), .pick (.tmp 12) (.const (.bool true)) (.tmp 19), none⟩] [1, 2, 20])
 (.cond (.tmp 20)
  (.seq (.reg [
      ⟨(some 4), .mv (.const (.bool false)), none⟩] [4])
  (.ret))
  (.skip)))
 (.seq (.reg [
     ⟨(some 21), .faddr 0 (.tmp 2), none⟩,
     ⟨(some 22), .load 1 false (.tmp 21), none⟩,
     ⟨(some 23), .mslice 2 8 (.int .i64 0) (.tmp 22) (.tmp 22), none⟩,
     ⟨(some 5), .mv (.tmp 23), none⟩] [1, 2, 5])
 (.seq (.seq (.reg [
     ⟨(some 6), .mv (.const (.int .i64 0)), none⟩] [1, 2, 5, 6])
 (.block 0 (.loop [1, 2, 5, 6]
   (.seq (.seq (.reg [
       ⟨(some 24), .mv (.tmp 6), none⟩,
       ⟨(some 25), .mv (.tmp 1), none⟩,
       ⟨(some 26), .len (.tmp 25), none⟩,
       ⟨(some 27), .bin .lss (.tmp 24) (.tmp 26), none⟩] [1, 2, 5, 6, 27])
   (.cond (.tmp 27)
    (.skip)
    (.exit 0)))
   (.seq (.block 1 (.seq (.reg [
        ⟨(some 30), .faddr 1 (.tmp 2), none⟩,
        ⟨(some 31), .load 1 false (.tmp 30), none⟩,
        ⟨(some 32), .mv (.tmp 1), none⟩,
        ⟨(some 33), .mv (.tmp 6), none⟩,
        ⟨(some 34), .iaddr 1 (.tmp 32) (.tmp 33), none⟩,
        ⟨(some 35), .load 1 false (.tmp 34), none⟩,
        ⟨(some 36), .iaddr 1 (.tmp 31) (.tmp 35), none⟩,
        ⟨(some 37), .load 1 false (.tmp 36), none⟩,
        ⟨(some 7), .mv (.tmp 37), none⟩] [1, 2, 5, 6, 7])
    (.seq (.reg [
        ⟨(some 8), .mv (.const (.int .i64 0)), none⟩] [1, 2, 5, 6, 7, 8])
    (.block 2 (.loop [1, 2, 5, 6, 7, 8]
      (.seq (.seq (.reg [
          ⟨(some 38), .mv (.tmp 8), none⟩,
          ⟨(some 39), .mv (.tmp 7), none⟩,
          ⟨(some 40), .len (.tmp 39), none⟩,
          ⟨(some 41), .bin .lss (.tmp 38) (.tmp 40), none⟩] [1, 2, 5, 6, 7, 8, 41])
      (.cond (.tmp 41)
       (.skip)
       (.exit 2)))
      (.seq (.block 3 (.reg [
           ⟨(some 44), .mv (.tmp 5), none⟩,
           ⟨(some 45), .mv (.tmp 7), none⟩,
           ⟨(some 46), .mv (.tmp 8), none⟩,
           ⟨(some 47), .iaddr 1 (.tmp 45) (.tmp 46), none⟩,
           ⟨(some 48), .load 1 false (.tmp 47), none⟩,
           ⟨(some 49), .iaddr 1 (.tmp 44) (.tmp 48), none⟩,
           ⟨(some 50), .load 1 false (.tmp 49), none⟩,
           ⟨(some 51), .bin .add (.tmp 50) (.const (.int .i64 1)), none⟩,
           ⟨(some 52), .iaddr 1 (.tmp 44) (.tmp 48), none⟩,
           ⟨none, .store 1 (.tmp 52) (.tmp 51), none⟩] [1, 2, 5, 6, 7, 8]))
      (.reg [
          ⟨(some 42), .mv (.tmp 8), none⟩,
          ⟨(some 43), .bin .add (.tmp 42) (.const (.int .i64 1)), none⟩,
          ⟨(some 8), .mv (.tmp 43), none⟩] [1, 2, 5, 6, 7, 8]))))))))
   (.reg [
       ⟨(some 28), .mv (.tmp 6), none⟩,
       ⟨(some 29), .bin .add (.tmp 28) (.const (.int .i64 1)), none⟩,
       ⟨(some 6), .mv (.tmp 29), none⟩] [1, 2, 5, 6]))))))
 (.seq (.seq (.reg [
     ⟨(some 9), .mv (.const (.int .i64 0)), none⟩] [5, 9])
 (.block 4 (.loop [5, 9]
   (.seq (.seq (.reg [
       ⟨(some 53), .mv (.tmp 9), none⟩,
       ⟨(some 54), .mv (.tmp 5), none⟩,
       ⟨(some 55), .len (.tmp 54), none⟩,
       ⟨(some 56), .bin .lss (.tmp 53) (.tmp 55), none⟩] [5, 9, 56])
   (.cond (.tmp 56)
    (.skip)
    (.exit 4)))
   (.seq (.block 5 (.seq (.reg [
        ⟨(some 59), .mv (.tmp 5), none⟩,
        ⟨(some 60), .mv (.tmp 9), none⟩,
        ⟨(some 61), .iaddr 1 (.tmp 59) (.tmp 60), none⟩,
        ⟨(some 62), .load 1 false (.tmp 61), none⟩,
        ⟨(some 63), .bin .neq (.tmp 62) (.const (.int .i64 1)), none⟩] [5, 9, 63])
    (.cond (.tmp 63)
     (.seq (.reg [
         ⟨(some 4), .mv (.const (.bool false)), none⟩] [4])
     (.ret))
     (.skip))))
   (.reg [
       ⟨(some 57), .mv (.tmp 9), none⟩,
       ⟨(some 58), .bin .add (.tmp 57) (.const (.int .i64 1)), none⟩,
       ⟨(some 9), .mv (.tmp 58), none⟩] [5, 9]))))))
 (.seq (.reg [
     ⟨(some 4), .mv (.const (.bool true)), none⟩] [4])
 (.ret))))))
theorem s_spec_IsCover : stripF Try.prog 49 [[1, 2], [1, 2, 20], [4], [1, 2, 5], [1, 2, 5, 6], [1, 2, 5, 6], [1, 2, 5, 6, 27], [1, 2, 5, 6, 7], [1, 2, 5, 6, 7, 8], [1, 2, 5, 6, 7, 8], [1, 2, 5, 6, 7, 8, 41], [1, 2, 5, 6, 7, 8], [1, 2, 5, 6, 7, 8], [1, 2, 5, 6], [5, 9], [5, 9], [5, 9, 56], [5, 9, 63], [4], [5, 9], [4]] = some (c_spec_IsCover, [.tmp 4], 64) := by kernel_rfl

/-- loop.example/g00920/impl.IsCover -/
abbrev f_impl_IsCover : Nat := 50
def c_impl_IsCover : SC :=
 .seq (.reg [
     ⟨(some 2), .box 24 (.tmp 0), none⟩,
     ⟨(some 4), .mv (.const (.bool false)), none⟩] [1, 2])
 (.seq (.seq (.reg [
     ⟨(some 7), .load 2 true (.tmp 2), none⟩,
     ⟨(some 8), .call 25 [(.tmp 7)], none⟩,
     ⟨(some 9), .un .not (.tmp 8), none⟩,
     ⟨(some 10), .mv (.tmp 9), none⟩,
     ⟨(some 11), .mv (.tmp 1), (some (10, false))⟩,
     ⟨(some 12), .faddr 1 (.tmp 2), (some (10, false))⟩,
     ⟨(some 13), .load 1 false (.tmp 12), (some (10, false))⟩,
     ⟨(some 14), .call 101 [(.tmp 13)], (some (10, false))⟩,
     ⟨(some 15), .call 67 [(.tmp 11), (.tmp 14)], (some (10, false))⟩,
     ⟨(some 16), .un .not (.tmp 15), (some (10, false))⟩,
     ⟨(some 17), .pick (.tmp 10) (.const (.bool true)) (.tmp 16), none⟩] [1, 2, 17])
 (.cond (.tmp 17)
  (.seq (.reg [
      ⟨(some 4), .mv (.const (.bool false)), none⟩] [4])
  (.ret))
  (.skip)))
 (.seq (.reg [
     ⟨(some 19), .load 2 true (.tmp 2), none⟩,
     ⟨(some 20), .mv (.tmp 1), none⟩,
     ⟨(some 21), .call 102 [(.tmp 19), (.tmp 20)], none⟩,
     ⟨(some 18), .mv (.tmp 21), none⟩,
     ⟨(some 22), .ext (.tmp 18) 0, none⟩,
     ⟨(some 23), .ext (.tmp 18) 1, none⟩,
     ⟨(some 5), .mv (.tmp 22), none⟩,
     ⟨(some 6), .mv (.tmp 23), none⟩] [5, 6])
 (.seq (.reg [
     ⟨(some 24), .mv (.tmp 6), none⟩,
     ⟨(some 25), .mv (.tmp 24), none⟩,
     ⟨(some 26), .mv (.tmp 5), (some (25, true))⟩,
     ⟨(some 27), .call 103 [(.tmp 26), (.const (.bool false))], (some (25, true))⟩,
     ⟨(some 28), .un .not (.tmp 27), (some (25, true))⟩,
     ⟨(some 29), .pick (.tmp 25) (.tmp 28) (.const (.bool false)), none⟩,
     ⟨(some 4), .mv (.tmp 29), none⟩] [4])
 (.ret))))
theorem s_impl_IsCover : stripF Try.prog 50 [[1, 2], [1, 2, 17], [4], [5, 6], [4]] = some (c_impl_IsCover, [.tmp 4], 30) := by kernel_rfl

/-- loop.example/g00920/impl.coveredBy -/
abbrev f_impl_coveredBy : Nat := 102
def c_impl_coveredBy : SC :=
 .seq (.reg [
     ⟨(some 2), .box 24 (.tmp 0), none⟩,
     ⟨(some 4), .mv (.const (.slice none 0 0)), none⟩,
     ⟨(some 5), .mv (.const (.bool false)), none⟩] [1, 2])
 (.seq (.reg [
     ⟨(some 11), .faddr 0 (.tmp 2), none⟩,
     ⟨(some 12), .load 1 false (.tmp 11), none⟩,
     ⟨(some 13), .mslice 4 1 (.bool false) (.tmp 12) (.tmp 12), none⟩,
     ⟨(some 6), .mv (.tmp 13), none⟩] [1, 2, 6])
 (.seq (.seq (.reg [
     ⟨(some 14), .mv (.tmp 1), none⟩,
     ⟨(some 15), .len (.tmp 14), none⟩,
     ⟨(some 16), .mv (.const (.int .i64 0)), none⟩] [2, 6, 14, 15, 16])
 (.block 0 (.loop [2, 6, 14, 15, 16]
   (.seq (.reg [
       ⟨(some 17), .bin .lss (.tmp 16) (.tmp 15), none⟩] [2, 6, 14, 15, 16, 17])
   (.seq (.cond (.tmp 17)
    (.skip)
    (.exit 0))
   (.seq (.block 1 (.seq (.reg [
        ⟨(some 18), .iaddr 1 (.tmp 14) (.tmp 16), none⟩,
        ⟨(some 19), .load 1 false (.tmp 18), none⟩,
        ⟨(some 8), .mv (.tmp 19), none⟩] [2, 6, 8, 14, 15, 16])
    (.seq (.reg [
        ⟨(some 20), .faddr 1 (.tmp 2), none⟩,
        ⟨(some 21), .load 1 false (.tmp 20), none⟩,
        ⟨(some 22), .mv (.tmp 8), none⟩,
        ⟨(some 23), .iaddr 1 (.tmp 21) (.tmp 22), none⟩,
        ⟨(some 24), .load 1 false (.tmp 23), none⟩,
        ⟨(some 25), .len (.tmp 24), none⟩,
        ⟨(some 26), .mv (.const (.int .i64 0)), none⟩] [2, 6, 14, 15, 16, 24, 25, 26])
    (.block 2 (.loop [2, 6, 14, 15, 16, 24, 25, 26]
      (.seq (.reg [
          ⟨(some 27), .bin .lss (.tmp 26) (.tmp 25), none⟩] [2, 6, 14, 15, 16, 24, 25, 26, 27])
      (.seq (.cond (.tmp 27)
       (.skip)
       (.exit 2))
      (.seq (.block 3 (.seq (.reg [
           ⟨(some 28), .iaddr 1 (.tmp 24) (.tmp 26), none⟩,
           ⟨(some 29), .load 1 false (.tmp 28), none⟩,
           ⟨(some 10), .mv (.tmp 29), none⟩] [2, 6, 10, 14, 15, 16, 24, 25, 26])
       (.seq (.seq (.reg [
           ⟨(some 30), .mv (.tmp 6), none⟩,
           ⟨(some 31), .mv (.tmp 10), none⟩,
           ⟨(some 32), .iaddr 1 (.tmp 30) (.tmp 31), none⟩,
           ⟨(some 33), .load 1 false (.tmp 32), none⟩] [2, 6, 10, 14, 15, 16, 24, 25, 26, 33])
       (.cond (.tmp 33)
        (.seq (.reg [
            ⟨(some 4), .mv (.const (.slice none 0 0)), none⟩,
            ⟨(some 5), .mv (.const (.bool false)), none⟩] [4, 5])
        (.ret))
        (.skip)))
       (.reg [
           ⟨(some 34), .mv (.tmp 6), none⟩,
           ⟨(some 35), .mv (.tmp 10), none⟩,
           ⟨(some 36), .iaddr 1 (.tmp 34) (.tmp 35), none⟩,
           ⟨none, .store 1 (.tmp 36) (.const (.bool true)), none⟩] [2, 6, 14, 15, 16, 24, 25, 26]))))
      (.reg [
          ⟨(some 37), .bin .add (.tmp 26) (.const (.int .i64 1)), none⟩,
          ⟨(some 26), .mv (.tmp 37), none⟩] [2, 6, 14, 15, 16, 24, 25, 26])))))))))
   (.reg [
       ⟨(some 38), .bin .add (.tmp 16) (.const (.int .i64 1)), none⟩,
       ⟨(some 16), .mv (.tmp 38), none⟩] [2, 6, 14, 15, 16])))))))
 (.seq (.reg [
     ⟨(some 39), .mv (.tmp 6), none⟩,
     ⟨(some 4), .mv (.tmp 39), none⟩,
     ⟨(some 5), .mv (.const (.bool true)), none⟩] [4, 5])
 (.ret))))
theorem s_impl_coveredBy : stripF Try.prog 102 [[1, 2], [1, 2, 6], [2, 6, 14, 15, 16], [2, 6, 14, 15, 16], [2, 6, 14, 15, 16, 17], [2, 6, 8, 14, 15, 16], [2, 6, 14, 15, 16, 24, 25, 26], [2, 6, 14, 15, 16, 24, 25, 26], [2, 6, 14, 15, 16, 24, 25, 26, 27], [2, 6, 10, 14, 15, 16, 24, 25, 26], [2, 6, 10, 14, 15, 16, 24, 25, 26, 33], [4, 5], [2, 6, 14, 15, 16, 24, 25, 26], [2, 6, 14, 15, 16, 24, 25, 26], [2, 6, 14, 15, 16], [4, 5]] = some (c_impl_coveredBy, [.tmp 4, .tmp 5], 40) := by kernel_rfl

/-- slices.Contains[[]bool,bool] -/
abbrev f_slices_Contains_Lbool_bool : Nat := 103
def c_slices_Contains_Lbool_bool : SC :=
 .seq (.reg [
     ⟨(some 4), .mv (.const (.bool false)), none⟩] [0, 1])
 (.seq (.reg [
     ⟨(some 5), .mv (.tmp 0), none⟩,
     ⟨(some 6), .mv (.tmp 1), none⟩,
     ⟨(some 7), .call 134 [(.tmp 5), (.tmp 6)], none⟩,
     ⟨(some 8), .bin .geq (.tmp 7) (.const (.int .i64 0)), none⟩,
     ⟨(some 4), .mv (.tmp 8), none⟩] [4])
 (.ret))
theorem s_slices_Contains_Lbool_bool : stripF Try.prog 103 [[0, 1], [4]] = some (c_slices_Contains_Lbool_bool, [.tmp 4], 9) := by kernel_rfl

/-- slices.Index[[]bool,bool] -/
abbrev f_slices_Index_Lbool_bool : Nat := 134
def c_slices_Index_Lbool_bool : SC :=
 .seq (.reg [
     ⟨(some 4), .mv (.const (.int .i64 0)), none⟩] [0, 1])
 (.seq (.seq (.reg [
     ⟨(some 6), .mv (.tmp 0), none⟩,
     ⟨(some 7), .len (.tmp 6), none⟩,
     ⟨(some 8), .mv (.const (.int .i64 0)), none⟩] [0, 1, 7, 8])
 (.block 0 (.loop [0, 1, 7, 8]
   (.seq (.reg [
       ⟨(some 9), .bin .lss (.tmp 8) (.tmp 7), none⟩] [0, 1, 7, 8, 9])
   (.seq (.cond (.tmp 9)
    (.skip)
    (.exit 0))
   (.seq (.block 1 (.seq (.reg [
        ⟨(some 10), .mv (.tmp 8), none⟩,
        ⟨(some 5), .mv (.tmp 10), none⟩] [0, 1, 5, 7, 8])
    (.seq (.reg [
        ⟨(some 11), .mv (.tmp 1), none⟩,
        ⟨(some 12), .mv (.tmp 0), none⟩,
        ⟨(some 13), .mv (.tmp 5), none⟩,
        ⟨(some 14), .iaddr 1 (.tmp 12) (.tmp 13), none⟩,
        ⟨(some 15), .load 1 false (.tmp 14), none⟩,
        ⟨(some 16), .binb false (.tmp 11) (.tmp 15), none⟩] [0, 1, 5, 7, 8, 16])
    (.cond (.tmp 16)
     (.seq (.reg [
         ⟨(some 17), .mv (.tmp 5), none⟩,
         ⟨(some 4), .mv (.tmp 17), none⟩] [4])
     (.ret))
     (.skip)))))
   (.reg [
       ⟨(some 18), .bin .add (.tmp 8) (.const (.int .i64 1)), none⟩,
       ⟨(some 8), .mv (.tmp 18), none⟩] [0, 1, 7, 8])))))))
 (.seq (.reg [
     ⟨(some 4), .mv (.const (.int .i64 (-1))), none⟩] [4])
 (.ret)))
theorem s_slices_Index_Lbool_bool : stripF Try.prog 134 [[0, 1], [0, 1, 7, 8], [0, 1, 7, 8], [0, 1, 7, 8, 9], [0, 1, 5, 7, 8], [0, 1, 5, 7, 8, 16], [4], [0, 1, 7, 8], [4]] = some (c_slices_Index_Lbool_bool, [.tmp 4], 19) := by kernel_rfl

end Go.Proofs.Ytmgbglekgigkmaa
