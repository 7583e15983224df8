/- MADE BY PROGRAM (wip/gen.sh, wip/Gen.lean.tpl): the abstract code of functions, tied to the program by the kernel. -/
import Derived.Test.YtmgbglekgigkmaaAv11
import Derived.Test.YtmgbglekgigkmaaProg
import Derived.KernelRfl
namespace Go.Proofs.Ytmgbglekgigkmaa
open Go.Av

/-- loop.example/g00920/laws.FnExactValidCover -/
abbrev f_laws_FnExactValidCover : Nat := 5
def c_laws_FnExactValidCover : SC :=
 .seq (.reg [
     ⟨(some 1), .box 30 (.tmp 0), none⟩,
     ⟨(some 2), .mv (.const (.bool false)), none⟩] [1])
 (.seq (.reg [
     ⟨(some 3), .mv (.const (.int .i64 1048576)), none⟩] [1, 3])
 (.seq (.reg [
     ⟨(some 7), .load 2 true (.tmp 1), none⟩,
     ⟨(some 8), .mv (.tmp 3), none⟩,
     ⟨(some 9), .call 20 [(.tmp 7), (.tmp 8)], none⟩,
     ⟨(some 3), .mv (.tmp 9), none⟩] [1, 3])
 (.seq (.seq (.reg [
     ⟨(some 10), .mv (.tmp 3), none⟩,
     ⟨(some 11), .bin .lss (.tmp 10) (.const (.int .i64 0)), none⟩] [1, 11])
 (.cond (.tmp 11)
  (.seq (.reg [
      ⟨(some 2), .mv (.const (.bool true)), none⟩] [2])
  (.ret))
  (.skip)))
 (.seq (.reg [
     ⟨(some 12), .load 2 true (.tmp 1), none⟩,
     ⟨(some 13), .call 22 [(.tmp 12)], none⟩,
     ⟨(some 14), .call 24 [(.tmp 13)], none⟩,
     ⟨(some 4), .mv (.tmp 14), none⟩] [1, 4])
 (.seq (.reg [
     ⟨(some 15), .load 2 true (.tmp 1), none⟩,
     ⟨(some 16), .call 22 [(.tmp 15)], none⟩,
     ⟨(some 5), .alloc 24 [(.int .i64 0), (.slice none 0 0)], none⟩,
     ⟨none, .store 2 (.tmp 5) (.tmp 16), none⟩] [1, 4, 5])
 (.seq (.reg [
     ⟨(some 17), .load 2 true (.tmp 5), none⟩,
     ⟨(some 18), .call 25 [(.tmp 17)], none⟩,
     ⟨(some 6), .mv (.tmp 18), none⟩] [1, 4, 5, 6])
 (.seq (.seq (.reg [
     ⟨(some 19), .mv (.tmp 6), none⟩,
     ⟨(some 20), .mv (.tmp 4), none⟩,
     ⟨(some 21), .binb true (.tmp 19) (.tmp 20), none⟩] [1, 5, 21])
 (.cond (.tmp 21)
  (.seq (.reg [
      ⟨(some 2), .mv (.const (.bool false)), none⟩] [2])
  (.ret))
  (.skip)))
 (.seq (.seq (.reg [
     ⟨(some 22), .load 2 true (.tmp 5), none⟩,
     ⟨(some 23), .load 2 true (.tmp 1), none⟩,
     ⟨(some 24), .qcall 22 [(.tmp 23)], none⟩,
     ⟨(some 25), .qcall 17 [(.tmp 22), (.tmp 24)], none⟩,
     ⟨(some 26), .un .not (.tmp 25), none⟩] [26])
 (.cond (.tmp 26)
  (.seq (.reg [
      ⟨(some 2), .mv (.const (.bool false)), none⟩] [2])
  (.ret))
  (.skip)))
 (.seq (.reg [
     ⟨(some 2), .mv (.const (.bool true)), none⟩] [2])
 (.ret))))))))))
theorem s_laws_FnExactValidCover : stripF Try.prog 5 [[1], [1, 3], [1, 3], [1, 11], [2], [1, 4], [1, 4, 5], [1, 4, 5, 6], [1, 5, 21], [2], [26], [2], [2]] = some (c_laws_FnExactValidCover, [.tmp 2], 27) := by kernel_rfl

/-- loop.example/g00920/spec.ValidCover -/
abbrev f_spec_ValidCover : Nat := 24
def c_spec_ValidCover : SC :=
 .seq (.reg [
     ⟨(some 1), .box 24 (.tmp 0), none⟩,
     ⟨(some 2), .mv (.const (.bool false)), none⟩] [1])
 (.seq (.reg [
     ⟨(some 3), .call 64 [(.tmp 1)], none⟩,
     ⟨(some 2), .mv (.tmp 3), none⟩] [2])
 (.ret))
theorem s_spec_ValidCover : stripF Try.prog 24 [[1], [2]] = some (c_spec_ValidCover, [.tmp 2], 4) := by kernel_rfl

/-- loop.example/g00920/impl.ValidCover -/
abbrev f_impl_ValidCover : Nat := 25
def c_impl_ValidCover : SC :=
 .seq (.reg [
     ⟨(some 1), .box 24 (.tmp 0), none⟩,
     ⟨(some 2), .mv (.const (.bool false)), none⟩] [1])
 (.seq (.seq (.reg [
     ⟨(some 3), .faddr 0 (.tmp 1), none⟩,
     ⟨(some 4), .load 1 false (.tmp 3), none⟩,
     ⟨(some 5), .call 59 [(.tmp 4), (.const (.int .i64 1)), (.const (.int .i64 64))], none⟩,
     ⟨(some 6), .un .not (.tmp 5), none⟩,
     ⟨(some 7), .mv (.tmp 6), none⟩,
     ⟨(some 8), .faddr 1 (.tmp 1), (some (7, false))⟩,
     ⟨(some 9), .load 1 false (.tmp 8), (some (7, false))⟩,
     ⟨(some 10), .len (.tmp 9), (some (7, false))⟩,
     ⟨(some 11), .bin .gtr (.tmp 10) (.const (.int .i64 256)), (some (7, false))⟩,
     ⟨(some 12), .pick (.tmp 7) (.const (.bool true)) (.tmp 11), none⟩] [1, 12])
 (.cond (.tmp 12)
  (.seq (.reg [
      ⟨(some 2), .mv (.const (.bool false)), none⟩] [2])
  (.ret))
  (.skip)))
 (.seq (.reg [
     ⟨(some 13), .faddr 1 (.tmp 1), none⟩,
     ⟨(some 14), .load 1 false (.tmp 13), none⟩,
     ⟨(some 15), .mkf 66 [(.tmp 1)], none⟩,
     ⟨(some 16), .call 65 [(.tmp 14), (.tmp 15)], none⟩,
     ⟨(some 17), .un .not (.tmp 16), none⟩,
     ⟨(some 2), .mv (.tmp 17), none⟩] [2])
 (.ret)))
theorem s_impl_ValidCover : stripF Try.prog 25 [[1], [1, 12], [2], [2]] = some (c_impl_ValidCover, [.tmp 2], 18) := by kernel_rfl

/-- loop.example/g00920/spec.l24Ok -/
abbrev f_spec_l24Ok : Nat := 64
def c_spec_l24Ok : SC :=
 .seq (.reg [
     ⟨(some 2), .mv (.const (.bool false)), none⟩] [0])
 (.seq (.seq (.reg [
     ⟨(some 4), .mv (.tmp 0), none⟩,
     ⟨(some 5), .nilc (.tmp 4), none⟩,
     ⟨(some 6), .faddr 0 (.tmp 5), none⟩,
     ⟨(some 7), .load 1 false (.tmp 6), none⟩,
     ⟨(some 8), .call 57 [(.tmp 7), (.const (.int .i64 1)), (.const (.int .i64 64))], none⟩,
     ⟨(some 9), .un .not (.tmp 8), none⟩,
     ⟨(some 10), .mv (.tmp 9), none⟩,
     ⟨(some 11), .mv (.tmp 0), (some (10, false))⟩,
     ⟨(some 12), .nilc (.tmp 11), (some (10, false))⟩,
     ⟨(some 13), .faddr 1 (.tmp 12), (some (10, false))⟩,
     ⟨(some 14), .load 1 false (.tmp 13), (some (10, false))⟩,
     ⟨(some 15), .len (.tmp 14), (some (10, false))⟩,
     ⟨(some 16), .bin .gtr (.tmp 15) (.const (.int .i64 256)), (some (10, false))⟩,
     ⟨(some 17), .pick (.tmp 10) (.const (.bool true)) (.tmp 16), none⟩] [0, 17])
 (.cond (.tmp 17)
  (.seq (.reg [
      ⟨(some 2), .mv (.const (.bool false)), none⟩] [2])
  (.ret))
  (.skip)))
 (.seq (.seq (.reg [
     ⟨(some 3), .mv (.const (.int .i64 0)), none⟩] [0, 3])
 (.block 0 (.loop [0, 3]
   (.seq (.seq (.reg [
       ⟨(some 18), .mv (.tmp 3), none⟩,
       ⟨(some 19), .mv (.tmp 0), none⟩,
       ⟨(some 20), .nilc (.tmp 19), none⟩,
       ⟨(some 21), .faddr 1 (.tmp 20), none⟩,
       ⟨(some 22), .load 1 false (.tmp 21), none⟩,
       ⟨(some 23), .len (.tmp 22), none⟩,
       ⟨(some 24), .bin .lss (.tmp 18) (.tmp 23), none⟩] [0, 3, 24])
   (.cond (.tmp 24)
    (.skip)
    (.exit 0)))
   (.seq (.block 1 (.seq (.reg [
        ⟨(some 27), .mv (.tmp 0), none⟩,
        ⟨(some 28), .nilc (.tmp 27), none⟩,
        ⟨(some 29), .faddr 1 (.tmp 28), none⟩,
        ⟨(some 30), .load 1 false (.tmp 29), none⟩,
        ⟨(some 31), .mv (.tmp 3), none⟩,
        ⟨(some 32), .iaddr 1 (.tmp 30) (.tmp 31), none⟩,
        ⟨(some 33), .load 1 false (.tmp 32), none⟩,
        ⟨(some 34), .mv (.tmp 0), none⟩,
        ⟨(some 35), .nilc (.tmp 34), none⟩,
        ⟨(some 36), .faddr 0 (.tmp 35), none⟩,
        ⟨(some 37), .load 1 false (.tmp 36), none⟩,
        ⟨(some 38), .qcall 114 [(.tmp 33), (.tmp 37)], none⟩,
        ⟨(some 39), .un .not (.tmp 38), none⟩] [0, 3, 39])
    (.cond (.tmp 39)
     (.seq (.reg [
         ⟨(some 2), .mv (.const (.bool false)), none⟩] [2])
     (.ret))
     (.skip))))
   (.reg [
       ⟨(some 25), .mv (.tmp 3), none⟩,
       ⟨(some 26), .bin .add (.tmp 25) (.const (.int .i64 1)), none⟩,
       ⟨(some 3), .mv (.tmp 26), none⟩] [0, 3]))))))
 (.seq (.reg [
     ⟨(some 2), .mv (.const (.bool true)), none⟩] [2])
 (.ret))))
theorem s_spec_l24Ok : stripF Try.prog 64 [[0], [0, 17], [2], [0, 3], [0, 3], [0, 3, 24], [0, 3, 39], [2], [0, 3], [2]] = some (c_spec_l24Ok, [.tmp 2], 40) := by kernel_rfl

/-- slices.ContainsFunc[[][]int64,[]int64] -/
abbrev f_slices_ContainsFunc_LLint64_Lint64 : Nat := 65
def c_slices_ContainsFunc_LLint64_Lint64 : SC :=
 .seq (.reg [
     ⟨(some 4), .mv (.const (.bool false)), none⟩] [0, 1])
 (.seq (.reg [
     ⟨(some 5), .mv (.tmp 0), none⟩,
     ⟨(some 6), .mv (.tmp 1), none⟩,
     ⟨(some 7), .call 115 [(.tmp 5), (.tmp 6)], none⟩,
     ⟨(some 8), .bin .geq (.tmp 7) (.const (.int .i64 0)), none⟩,
     ⟨(some 4), .mv (.tmp 8), none⟩] [4])
 (.ret))
theorem s_slices_ContainsFunc_LLint64_Lint64 : stripF Try.prog 65 [[0, 1], [4]] = some (c_slices_ContainsFunc_LLint64_Lint64, [.tmp 4], 9) := by kernel_rfl

/-- loop.example/g00920/impl.ValidCover$1 -/
abbrev f_impl_ValidCover_c1 : Nat := 66
def c_impl_ValidCover_c1 : SC :=
 .seq (.reg [
     ⟨(some 3), .mv (.const (.bool false)), none⟩] [0, 1])
 (.seq (.reg [
     ⟨(some 4), .mv (.tmp 0), none⟩,
     ⟨(some 5), .len (.tmp 4), none⟩,
     ⟨(some 6), .bin .eql (.tmp 5) (.const (.int .i64 0)), none⟩,
     ⟨(some 7), .mv (.tmp 6), none⟩,
     ⟨(some 8), .mv (.tmp 0), (some (7, false))⟩,
     ⟨(some 9), .faddr 0 (.tmp 1), (some (7, false))⟩,
     ⟨(some 10), .load 1 false (.tmp 9), (some (7, false))⟩,
     ⟨(some 11), .call 67 [(.tmp 8), (.tmp 10)], (some (7, false))⟩,
     ⟨(some 12), .un .not (.tmp 11), (some (7, false))⟩,
     ⟨(some 13), .pick (.tmp 7) (.const (.bool true)) (.tmp 12), none⟩,
     ⟨(some 3), .mv (.tmp 13), none⟩] [3])
 (.ret))
theorem s_impl_ValidCover_c1 : stripF Try.prog 66 [[0, 1], [3]] = some (c_impl_ValidCover_c1, [.tmp 3], 14) := by kernel_rfl

/-- loop.example/g00920/impl.areIndices -/
abbrev f_impl_areIndices : Nat := 67
def c_impl_areIndices : SC :=
 .seq (.reg [
     ⟨(some 4), .mv (.const (.bool false)), none⟩] [0, 1])
 (.seq (.reg [
     ⟨(some 5), .mv (.const (.int .i64 (-1))), none⟩] [0, 1, 5])
 (.seq (.seq (.reg [
     ⟨(some 8), .mv (.tmp 0), none⟩,
     ⟨(some 9), .len (.tmp 8), none⟩,
     ⟨(some 10), .mv (.const (.int .i64 0)), none⟩] [1, 5, 8, 9, 10])
 (.block 0 (.loop [1, 5, 8, 9, 10]
   (.seq (.reg [
       ⟨(some 11), .bin .lss (.tmp 10) (.tmp 9), none⟩] [1, 5, 8, 9, 10, 11])
   (.seq (.cond (.tmp 11)
    (.skip)
    (.exit 0))
   (.seq (.block 1 (.seq (.reg [
        ⟨(some 12), .iaddr 1 (.tmp 8) (.tmp 10), none⟩,
        ⟨(some 13), .load 1 false (.tmp 12), none⟩,
        ⟨(some 7), .mv (.tmp 13), none⟩] [1, 5, 7, 8, 9, 10])
    (.seq (.seq (.reg [
        ⟨(some 14), .mv (.tmp 7), none⟩,
        ⟨(some 15), .mv (.tmp 5), none⟩,
        ⟨(some 16), .bin .add (.tmp 15) (.const (.int .i64 1)), none⟩,
        ⟨(some 17), .mv (.tmp 1), none⟩,
        ⟨(some 18), .bin .sub (.tmp 17) (.const (.int .i64 1)), none⟩,
        ⟨(some 19), .call 59 [(.tmp 14), (.tmp 16), (.tmp 18)], none⟩,
        ⟨(some 20), .un .not (.tmp 19), none⟩] [1, 7, 8, 9, 10, 20])
    (.cond (.tmp 20)
     (.seq (.reg [
         ⟨(some 4), .mv (.const (.bool false)), none⟩] [4])
     (.ret))
     (.skip)))
    (.reg [
        ⟨(some 21), .mv (.tmp 7), none⟩,
        ⟨(some 5), .mv (.tmp 21), none⟩] [1, 5, 8, 9, 10]))))
   (.reg [
       ⟨(some 22), .bin .add (.tmp 10) (.const (.int .i64 1)), none⟩,
       ⟨(some 10), .mv (.tmp 22), none⟩] [1, 5, 8, 9, 10])))))))
 (.seq (.reg [
     ⟨(some 4), .mv (.const (.bool true)), none⟩] [4])
 (.ret))))
theorem s_impl_areIndices : stripF Try.prog 67 [[0, 1], [0, 1, 5], [1, 5, 8, 9, 10], [1, 5, 8, 9, 10], [1, 5, 8, 9, 10, 11], [1, 5, 7, 8, 9, 10], [1, 7, 8, 9, 10, 20], [4], [1, 5, 8, 9, 10], [1, 5, 8, 9, 10], [4]] = some (c_impl_areIndices, [.tmp 4], 23) := by kernel_rfl

/-- loop.example/g00920/spec.l00Rises -/
abbrev f_spec_l00Rises : Nat := 100
def c_spec_l00Rises : SC :=
 .seq (.reg [
     ⟨(some 6), .mv (.const (.bool false)), none⟩] [0, 1, 2])
 (.seq (.seq (.reg [
     ⟨(some 7), .mv (.const (.int .i64 0)), none⟩] [0, 1, 2, 7])
 (.block 0 (.loop [0, 1, 2, 7]
   (.seq (.seq (.reg [
       ⟨(some 8), .mv (.tmp 7), none⟩,
       ⟨(some 9), .mv (.tmp 0), none⟩,
       ⟨(some 10), .len (.tmp 9), none⟩,
       ⟨(some 11), .bin .lss (.tmp 8) (.tmp 10), none⟩] [0, 1, 2, 7, 11])
   (.cond (.tmp 11)
    (.skip)
    (.exit 0)))
   (.seq (.block 1 (.seq (.reg [
        ⟨(some 14), .mv (.tmp 0), none⟩,
        ⟨(some 15), .mv (.tmp 7), none⟩,
        ⟨(some 16), .iaddr 1 (.tmp 14) (.tmp 15), none⟩,
        ⟨(some 17), .load 1 false (.tmp 16), none⟩,
        ⟨(some 18), .mv (.tmp 1), none⟩,
        ⟨(some 19), .mv (.tmp 2), none⟩,
        ⟨(some 20), .qcall 57 [(.tmp 17), (.tmp 18), (.tmp 19)], none⟩,
        ⟨(some 21), .un .not (.tmp 20), none⟩,
        ⟨(some 22), .mv (.tmp 21), none⟩,
        ⟨(some 23), .mv (.tmp 7), (some (22, false))⟩,
        ⟨(some 24), .bin .gtr (.tmp 23) (.const (.int .i64 0)), (some (22, false))⟩,
        ⟨(some 25), .mv (.tmp 24), (some (22, false))⟩,
        ⟨(some 26), .mv (.tmp 0), (some (25, true))⟩,
        ⟨(some 27), .mv (.tmp 7), (some (25, true))⟩,
        ⟨(some 28), .bin .sub (.tmp 27) (.const (.int .i64 1)), (some (25, true))⟩,
        ⟨(some 29), .iaddr 1 (.tmp 26) (.tmp 28), (some (25, true))⟩,
        ⟨(some 30), .load 1 false (.tmp 29), (some (25, true))⟩,
        ⟨(some 31), .mv (.tmp 0), (some (25, true))⟩,
        ⟨(some 32), .mv (.tmp 7), (some (25, true))⟩,
        ⟨(some 33), .iaddr 1 (.tmp 31) (.tmp 32), (some (25, true))⟩,
        ⟨(some 34), .load 1 false (.tmp 33), (some (25, true))⟩,
        ⟨(some 35), .bin .geq (.tmp 30) (.tmp 34), (some (25, true))⟩,
        ⟨(some 36), .pick (.tmp 25) (.tmp 35) (.const (.bool false)), (some (22, false))⟩,
        ⟨(some 37), .pick (.tmp 22) (.const (.bool true)) (.tmp 36), none⟩] [0, 1, 2, 7, 37])
    (.cond (.tmp 37)
     (.seq (.reg [
         ⟨(some 6), .mv (.const (.bool false)), none⟩] [6])
     (.ret))
     (.skip))))
   (.reg [
       ⟨(some 12), .mv (.tmp 7), none⟩,
       ⟨(some 13), .bin .add (.tmp 12) (.const (.int .i64 1)), none⟩,
       ⟨(some 7), .mv (.tmp 13), none⟩] [0, 1, 2, 7]))))))
 (.seq (.reg [
     ⟨(some 6), .mv (.const (.bool true)), none⟩] [6])
 (.ret)))
theorem s_spec_l00Rises : stripF Try.prog 100 [[0, 1, 2], [0, 1, 2, 7], [0, 1, 2, 7], [0, 1, 2, 7, 11], [0, 1, 2, 7, 37], [6], [0, 1, 2, 7], [6]] = some (c_spec_l00Rises, [.tmp 6], 38) := by kernel_rfl

/-- loop.example/g00920/spec.l10Block -/
abbrev f_spec_l10Block : Nat := 114
def c_spec_l10Block : SC :=
 .seq (.reg [
     ⟨(some 4), .mv (.const (.bool false)), none⟩] [0, 1])
 (.seq (.reg [
     ⟨(some 5), .mv (.tmp 0), none⟩,
     ⟨(some 6), .len (.tmp 5), none⟩,
     ⟨(some 7), .bin .gtr (.tmp 6) (.const (.int .i64 0)), none⟩,
     ⟨(some 8), .mv (.tmp 7), none⟩,
     ⟨(some 9), .mv (.tmp 0), (some (8, true))⟩,
     ⟨(some 10), .mv (.tmp 1), (some (8, true))⟩,
     ⟨(some 11), .bin .sub (.tmp 10) (.const (.int .i64 1)), (some (8, true))⟩,
     ⟨(some 12), .call 100 [(.tmp 9), (.const (.int .i64 0)), (.tmp 11)], (some (8, true))⟩,
     ⟨(some 13), .pick (.tmp 8) (.tmp 12) (.const (.bool false)), none⟩,
     ⟨(some 4), .mv (.tmp 13), none⟩] [4])
 (.ret))
theorem s_spec_l10Block : stripF Try.prog 114 [[0, 1], [4]] = some (c_spec_l10Block, [.tmp 4], 14) := by kernel_rfl

/-- slices.IndexFunc[[][]int64,[]int64] -/
abbrev f_slices_IndexFunc_LLint64_Lint64 : Nat := 115
def c_slices_IndexFunc_LLint64_Lint64 : SC :=
 .seq (.reg [
     ⟨(some 4), .mv (.const (.int .i64 0)), none⟩] [0, 1])
 (.seq (.seq (.reg [
     ⟨(some 6), .mv (.tmp 0), none⟩,
     ⟨(some 7), .len (.tmp 6), none⟩,
     ⟨(some 8), .mv (.const (.int .i64 0)), none⟩] [0, 1, 7, 8])
 (.block 0 (.loop [0, 1, 7, 8]
   (.seq (.reg [
       ⟨(some 9), .bin .lss (.tmp 8) (.tmp 7), none⟩] [0, 1, 7, 8, 9])
   (.seq (.cond (.tmp 9)
    (.skip)
    (.exit 0))
   (.seq (.block 1 (.seq (.reg [
        ⟨(some 10), .mv (.tmp 8), none⟩,
        ⟨(some 5), .mv (.tmp 10), none⟩] [0, 1, 5, 7, 8])
    (.seq (.reg [
        ⟨(some 11), .mv (.tmp 1), none⟩,
        ⟨(some 12), .mv (.tmp 0), none⟩,
        ⟨(some 13), .mv (.tmp 5), none⟩,
        ⟨(some 14), .iaddr 1 (.tmp 12) (.tmp 13), none⟩,
        ⟨(some 15), .load 1 false (.tmp 14), none⟩,
        ⟨(some 16), .callv (.tmp 11) [(.tmp 15)], none⟩] [0, 1, 5, 7, 8, 16])
    (.cond (.tmp 16)
     (.seq (.reg [
         ⟨(some 17), .mv (.tmp 5), none⟩,
         ⟨(some 4), .mv (.tmp 17), none⟩] [4])
     (.ret))
     (.skip)))))
   (.reg [
       ⟨(some 18), .bin .add (.tmp 8) (.const (.int .i64 1)), none⟩,
       ⟨(some 8), .mv (.tmp 18), none⟩] [0, 1, 7, 8])))))))
 (.seq (.reg [
     ⟨(some 4), .mv (.const (.int .i64 (-1))), none⟩] [4])
 (.ret)))
theorem s_slices_IndexFunc_LLint64_Lint64 : stripF Try.prog 115 [[0, 1], [0, 1, 7, 8], [0, 1, 7, 8], [0, 1, 7, 8, 9], [0, 1, 5, 7, 8], [0, 1, 5, 7, 8, 16], [4], [0, 1, 7, 8], [4]] = some (c_slices_IndexFunc_LLint64_Lint64, [.tmp 4], 19) := by kernel_rfl

end Go.Proofs.Ytmgbglekgigkmaa
