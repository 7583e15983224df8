/- MADE BY PROGRAM (wip/gen.sh, wip/Gen.lean.tpl): the abstract code of functions, tied to the program by the kernel. -/
import Derived.Test.YtmgbglekgigkmaaAv11
import Derived.Test.YtmgbglekgigkmaaProg
import Derived.KernelRfl
namespace Go.Proofs.Ytmgbglekgigkmaa
open Go.Av

/-- loop.example/g00920/laws.FnExactSameCover -/
abbrev f_laws_FnExactSameCover : Nat := 4
def c_laws_FnExactSameCover : SC :=
 .seq (.reg [
     ⟨(some 2), .box 30 (.tmp 0), none⟩,
     ⟨(some 3), .box 30 (.tmp 1), none⟩,
     ⟨(some 4), .mv (.const (.bool false)), none⟩] [2, 3])
 (.seq (.reg [
     ⟨(some 5), .mv (.const (.int .i64 1048576)), none⟩] [2, 3, 5])
 (.seq (.reg [
     ⟨(some 10), .load 2 true (.tmp 2), none⟩,
     ⟨(some 11), .mv (.tmp 5), none⟩,
     ⟨(some 12), .call 20 [(.tmp 10), (.tmp 11)], none⟩,
     ⟨(some 5), .mv (.tmp 12), none⟩] [2, 3, 5])
 (.seq (.seq (.reg [
     ⟨(some 13), .mv (.tmp 5), none⟩,
     ⟨(some 14), .bin .lss (.tmp 13) (.const (.int .i64 0)), none⟩] [2, 3, 5, 14])
 (.cond (.tmp 14)
  (.seq (.reg [
      ⟨(some 4), .mv (.const (.bool true)), none⟩] [4])
  (.ret))
  (.skip)))
 (.seq (.reg [
     ⟨(some 15), .load 2 true (.tmp 3), none⟩,
     ⟨(some 16), .mv (.tmp 5), none⟩,
     ⟨(some 17), .call 20 [(.tmp 15), (.tmp 16)], none⟩,
     ⟨(some 5), .mv (.tmp 17), none⟩] [2, 3, 5])
 (.seq (.seq (.reg [
     ⟨(some 18), .mv (.tmp 5), none⟩,
     ⟨(some 19), .bin .lss (.tmp 18) (.const (.int .i64 0)), none⟩] [2, 3, 19])
 (.cond (.tmp 19)
  (.seq (.reg [
      ⟨(some 4), .mv (.const (.bool true)), none⟩] [4])
  (.ret))
  (.skip)))
 (.seq (.reg [
     ⟨(some 20), .load 2 true (.tmp 2), none⟩,
     ⟨(some 21), .qcall 22 [(.tmp 20)], none⟩,
     ⟨(some 22), .load 2 true (.tmp 3), none⟩,
     ⟨(some 23), .qcall 22 [(.tmp 22)], none⟩,
     ⟨(some 24), .qcall 21 [(.tmp 21), (.tmp 23)], none⟩,
     ⟨(some 6), .mv (.tmp 24), none⟩] [2, 3, 6])
 (.seq (.reg [
     ⟨(some 25), .load 2 true (.tmp 2), none⟩,
     ⟨(some 26), .call 22 [(.tmp 25)], none⟩,
     ⟨(some 7), .alloc 24 [(.int .i64 0), (.slice none 0 0)], none⟩,
     ⟨none, .store 2 (.tmp 7) (.tmp 26), none⟩] [2, 3, 6, 7])
 (.seq (.reg [
     ⟨(some 27), .load 2 true (.tmp 3), none⟩,
     ⟨(some 28), .call 22 [(.tmp 27)], none⟩,
     ⟨(some 8), .alloc 24 [(.int .i64 0), (.slice none 0 0)], none⟩,
     ⟨none, .store 2 (.tmp 8) (.tmp 28), none⟩] [2, 3, 6, 7, 8])
 (.seq (.reg [
     ⟨(some 29), .load 2 true (.tmp 7), none⟩,
     ⟨(some 30), .load 2 true (.tmp 8), none⟩,
     ⟨(some 31), .call 23 [(.tmp 29), (.tmp 30)], none⟩,
     ⟨(some 9), .mv (.tmp 31), none⟩] [2, 3, 6, 7, 8, 9])
 (.seq (.seq (.reg [
     ⟨(some 32), .mv (.tmp 9), none⟩,
     ⟨(some 33), .mv (.tmp 6), none⟩,
     ⟨(some 34), .binb true (.tmp 32) (.tmp 33), none⟩] [2, 3, 7, 8, 34])
 (.cond (.tmp 34)
  (.seq (.reg [
      ⟨(some 4), .mv (.const (.bool false)), none⟩] [4])
  (.ret))
  (.skip)))
 (.seq (.seq (.reg [
     ⟨(some 35), .load 2 true (.tmp 7), none⟩,
     ⟨(some 36), .load 2 true (.tmp 2), none⟩,
     ⟨(some 37), .qcall 22 [(.tmp 36)], none⟩,
     ⟨(some 38), .qcall 17 [(.tmp 35), (.tmp 37)], none⟩,
     ⟨(some 39), .un .not (.tmp 38), none⟩] [3, 8, 39])
 (.cond (.tmp 39)
  (.seq (.reg [
      ⟨(some 4), .mv (.const (.bool false)), none⟩] [4])
  (.ret))
  (.skip)))
 (.seq (.seq (.reg [
     ⟨(some 40), .load 2 true (.tmp 8), none⟩,
     ⟨(some 41), .load 2 true (.tmp 3), none⟩,
     ⟨(some 42), .qcall 22 [(.tmp 41)], none⟩,
     ⟨(some 43), .qcall 17 [(.tmp 40), (.tmp 42)], none⟩,
     ⟨(some 44), .un .not (.tmp 43), none⟩] [44])
 (.cond (.tmp 44)
  (.seq (.reg [
      ⟨(some 4), .mv (.const (.bool false)), none⟩] [4])
  (.ret))
  (.skip)))
 (.seq (.reg [
     ⟨(some 4), .mv (.const (.bool true)), none⟩] [4])
 (.ret))))))))))))))
theorem s_laws_FnExactSameCover : stripF Try.prog 4 [[2, 3], [2, 3, 5], [2, 3, 5], [2, 3, 5, 14], [4], [2, 3, 5], [2, 3, 19], [4], [2, 3, 6], [2, 3, 6, 7], [2, 3, 6, 7, 8], [2, 3, 6, 7, 8, 9], [2, 3, 7, 8, 34], [4], [3, 8, 39], [4], [44], [4], [4]] = some (c_laws_FnExactSameCover, [.tmp 4], 45) := by kernel_rfl

/-- loop.example/g00920/laws.szCover -/
abbrev f_laws_szCover : Nat := 20
def c_laws_szCover : SC :=
 .seq (.reg [
     ⟨(some 2), .box 30 (.tmp 0), none⟩,
     ⟨(some 4), .mv (.const (.int .i64 0)), none⟩] [1, 2])
 (.seq (.reg [
     ⟨(some 5), .faddr 1 (.tmp 2), none⟩,
     ⟨(some 6), .load 1 false (.tmp 5), none⟩,
     ⟨(some 7), .mv (.tmp 1), none⟩,
     ⟨(some 8), .call 28 [(.tmp 6), (.tmp 7)], none⟩,
     ⟨(some 1), .mv (.tmp 8), none⟩] [1])
 (.seq (.seq (.reg [
     ⟨(some 9), .mv (.tmp 1), none⟩,
     ⟨(some 10), .bin .lss (.tmp 9) (.const (.int .i64 0)), none⟩] [1, 10])
 (.cond (.tmp 10)
  (.seq (.reg [
      ⟨(some 4), .mv (.const (.int .i64 (-1))), none⟩] [4])
  (.ret))
  (.skip)))
 (.seq (.reg [
     ⟨(some 11), .mv (.tmp 1), none⟩,
     ⟨(some 4), .mv (.tmp 11), none⟩] [4])
 (.ret))))
theorem s_laws_szCover : stripF Try.prog 20 [[1, 2], [1], [1, 10], [4], [4]] = some (c_laws_szCover, [.tmp 4], 12) := by kernel_rfl

/-- loop.example/g00920/spec.SameCover -/
abbrev f_spec_SameCover : Nat := 21
def c_spec_SameCover : SC :=
 .seq (.reg [
     ⟨(some 2), .box 24 (.tmp 0), none⟩,
     ⟨(some 3), .box 24 (.tmp 1), none⟩,
     ⟨(some 4), .mv (.const (.bool false)), none⟩] [2, 3])
 (.seq (.reg [
     ⟨(some 5), .faddr 0 (.tmp 2), none⟩,
     ⟨(some 6), .load 1 false (.tmp 5), none⟩,
     ⟨(some 7), .faddr 0 (.tmp 3), none⟩,
     ⟨(some 8), .load 1 false (.tmp 7), none⟩,
     ⟨(some 9), .bin .eql (.tmp 6) (.tmp 8), none⟩,
     ⟨(some 10), .mv (.tmp 9), none⟩,
     ⟨(some 11), .faddr 1 (.tmp 2), (some (10, true))⟩,
     ⟨(some 12), .load 1 false (.tmp 11), (some (10, true))⟩,
     ⟨(some 13), .faddr 1 (.tmp 3), (some (10, true))⟩,
     ⟨(some 14), .load 1 false (.tmp 13), (some (10, true))⟩,
     ⟨(some 15), .call 62 [(.tmp 12), (.tmp 14)], (some (10, true))⟩,
     ⟨(some 16), .pick (.tmp 10) (.tmp 15) (.const (.bool false)), none⟩,
     ⟨(some 4), .mv (.tmp 16), none⟩] [4])
 (.ret))
theorem s_spec_SameCover : stripF Try.prog 21 [[2, 3], [4]] = some (c_spec_SameCover, [.tmp 4], 17) := by kernel_rfl

/-- loop.example/g00920/laws.toCover -/
abbrev f_laws_toCover : Nat := 22
def c_laws_toCover : SC :=
 .seq (.reg [
     ⟨(some 1), .box 30 (.tmp 0), none⟩,
     ⟨(some 2), .alloc 24 [(.int .i64 0), (.slice none 0 0)], none⟩] [1, 2])
 (.seq (.reg [
     ⟨(some 3), .alloc 24 [(.int .i64 0), (.slice none 0 0)], none⟩] [1, 2, 3])
 (.seq (.reg [
     ⟨(some 4), .faddr 0 (.tmp 1), none⟩,
     ⟨(some 5), .load 1 false (.tmp 4), none⟩,
     ⟨(some 6), .faddr 0 (.tmp 3), none⟩,
     ⟨none, .store 1 (.tmp 6) (.tmp 5), none⟩] [1, 2, 3])
 (.seq (.reg [
     ⟨(some 7), .faddr 1 (.tmp 1), none⟩,
     ⟨(some 8), .load 1 false (.tmp 7), none⟩,
     ⟨(some 9), .call 30 [(.tmp 8)], none⟩,
     ⟨(some 10), .faddr 1 (.tmp 3), none⟩,
     ⟨none, .store 1 (.tmp 10) (.tmp 9), none⟩] [2, 3])
 (.seq (.reg [
     ⟨(some 11), .load 2 true (.tmp 3), none⟩,
     ⟨none, .store 2 (.tmp 2) (.tmp 11), none⟩] [2])
 (.ret)))))
theorem s_laws_toCover : stripF Try.prog 22 [[1, 2], [1, 2, 3], [1, 2, 3], [2, 3], [2]] = some (c_laws_toCover, [.cell 2 2], 12) := by kernel_rfl

/-- loop.example/g00920/impl.SameCover -/
abbrev f_impl_SameCover : Nat := 23
def c_impl_SameCover : SC :=
 .seq (.reg [
     ⟨(some 2), .box 24 (.tmp 0), none⟩,
     ⟨(some 3), .box 24 (.tmp 1), none⟩,
     ⟨(some 4), .mv (.const (.bool false)), none⟩] [2, 3])
 (.seq (.reg [
     ⟨(some 5), .faddr 0 (.tmp 2), none⟩,
     ⟨(some 6), .load 1 false (.tmp 5), none⟩,
     ⟨(some 7), .faddr 0 (.tmp 3), none⟩,
     ⟨(some 8), .load 1 false (.tmp 7), none⟩,
     ⟨(some 9), .bin .eql (.tmp 6) (.tmp 8), none⟩,
     ⟨(some 10), .mv (.tmp 9), none⟩,
     ⟨(some 11), .faddr 1 (.tmp 2), (some (10, true))⟩,
     ⟨(some 12), .load 1 false (.tmp 11), (some (10, true))⟩,
     ⟨(some 13), .faddr 1 (.tmp 3), (some (10, true))⟩,
     ⟨(some 14), .load 1 false (.tmp 13), (some (10, true))⟩,
     ⟨(some 15), .call 63 [(.tmp 12), (.tmp 14)], (some (10, true))⟩,
     ⟨(some 16), .pick (.tmp 10) (.tmp 15) (.const (.bool false)), none⟩,
     ⟨(some 4), .mv (.tmp 16), none⟩] [4])
 (.ret))
theorem s_impl_SameCover : stripF Try.prog 23 [[2, 3], [4]] = some (c_impl_SameCover, [.tmp 4], 17) := by kernel_rfl

/-- loop.example/g00920/laws.szInt64SS -/
abbrev f_laws_szInt64SS : Nat := 28
def c_laws_szInt64SS : SC :=
 .seq (.reg [
     ⟨(some 4), .mv (.const (.int .i64 0)), none⟩] [0, 1])
 (.seq (.reg [
     ⟨(some 6), .mv (.tmp 1), none⟩,
     ⟨(some 7), .mv (.tmp 0), none⟩,
     ⟨(some 8), .len (.tmp 7), none⟩,
     ⟨(some 9), .bin .sub (.tmp 6) (.tmp 8), none⟩,
     ⟨(some 1), .mv (.tmp 9), none⟩] [0, 1])
 (.seq (.seq (.reg [
     ⟨(some 10), .mv (.tmp 1), none⟩,
     ⟨(some 11), .bin .lss (.tmp 10) (.const (.int .i64 0)), none⟩] [0, 1, 11])
 (.cond (.tmp 11)
  (.seq (.reg [
      ⟨(some 4), .mv (.const (.int .i64 (-1))), none⟩] [4])
  (.ret))
  (.skip)))
 (.seq (.seq (.reg [
     ⟨(some 5), .mv (.const (.int .i64 0)), none⟩] [0, 1, 5])
 (.block 0 (.loop [0, 1, 5]
   (.seq (.seq (.reg [
       ⟨(some 12), .mv (.tmp 5), none⟩,
       ⟨(some 13), .mv (.tmp 0), none⟩,
       ⟨(some 14), .len (.tmp 13), none⟩,
       ⟨(some 15), .bin .lss (.tmp 12) (.tmp 14), none⟩] [0, 1, 5, 15])
   (.cond (.tmp 15)
    (.skip)
    (.exit 0)))
   (.seq (.block 1 (.seq (.reg [
        ⟨(some 18), .mv (.tmp 0), none⟩,
        ⟨(some 19), .mv (.tmp 5), none⟩,
        ⟨(some 20), .iaddr 1 (.tmp 18) (.tmp 19), none⟩,
        ⟨(some 21), .load 1 false (.tmp 20), none⟩,
        ⟨(some 22), .mv (.tmp 1), none⟩,
        ⟨(some 23), .call 74 [(.tmp 21), (.tmp 22)], none⟩,
        ⟨(some 1), .mv (.tmp 23), none⟩] [0, 1, 5])
    (.seq (.reg [
        ⟨(some 24), .mv (.tmp 1), none⟩,
        ⟨(some 25), .bin .lss (.tmp 24) (.const (.int .i64 0)), none⟩] [0, 1, 5, 25])
    (.cond (.tmp 25)
     (.seq (.reg [
         ⟨(some 4), .mv (.const (.int .i64 (-1))), none⟩] [4])
     (.ret))
     (.skip)))))
   (.reg [
       ⟨(some 16), .mv (.tmp 5), none⟩,
       ⟨(some 17), .bin .add (.tmp 16) (.const (.int .i64 1)), none⟩,
       ⟨(some 5), .mv (.tmp 17), none⟩] [0, 1, 5]))))))
 (.seq (.reg [
     ⟨(some 26), .mv (.tmp 1), none⟩,
     ⟨(some 4), .mv (.tmp 26), none⟩] [4])
 (.ret)))))
theorem s_laws_szInt64SS : stripF Try.prog 28 [[0, 1], [0, 1], [0, 1, 11], [4], [0, 1, 5], [0, 1, 5], [0, 1, 5, 15], [0, 1, 5], [0, 1, 5, 25], [4], [0, 1, 5], [4]] = some (c_laws_szInt64SS, [.tmp 4], 27) := by kernel_rfl

/-- loop.example/g00920/laws.toInt64SS -/
abbrev f_laws_toInt64SS : Nat := 30
def c_laws_toInt64SS : SC :=
 .seq (.reg [
     ⟨(some 2), .mv (.const (.slice none 0 0)), none⟩] [0])
 (.seq (.reg [
     ⟨(some 5), .mv (.tmp 0), none⟩,
     ⟨(some 6), .len (.tmp 5), none⟩,
     ⟨(some 7), .mslice 42 24 (.slice none 0 0) (.tmp 6) (.tmp 6), none⟩,
     ⟨(some 3), .mv (.tmp 7), none⟩] [0, 3])
 (.seq (.seq (.reg [
     ⟨(some 4), .mv (.const (.int .i64 0)), none⟩] [0, 3, 4])
 (.block 0 (.loop [0, 3, 4]
   (.seq (.seq (.reg [
       ⟨(some 8), .mv (.tmp 4), none⟩,
       ⟨(some 9), .mv (.tmp 0), none⟩,
       ⟨(some 10), .len (.tmp 9), none⟩,
       ⟨(some 11), .bin .lss (.tmp 8) (.tmp 10), none⟩] [0, 3, 4, 11])
   (.cond (.tmp 11)
    (.skip)
    (.exit 0)))
   (.seq (.block 1 (.reg [
        ⟨(some 14), .mv (.tmp 3), none⟩,
        ⟨(some 15), .mv (.tmp 4), none⟩,
        ⟨(some 16), .mv (.tmp 0), none⟩,
        ⟨(some 17), .mv (.tmp 4), none⟩,
        ⟨(some 18), .iaddr 1 (.tmp 16) (.tmp 17), none⟩,
        ⟨(some 19), .load 1 false (.tmp 18), none⟩,
        ⟨(some 20), .call 34 [(.tmp 19)], none⟩,
        ⟨(some 21), .iaddr 1 (.tmp 14) (.tmp 15), none⟩,
        ⟨none, .store 1 (.tmp 21) (.tmp 20), none⟩] [0, 3, 4]))
   (.reg [
       ⟨(some 12), .mv (.tmp 4), none⟩,
       ⟨(some 13), .bin .add (.tmp 12) (.const (.int .i64 1)), none⟩,
       ⟨(some 4), .mv (.tmp 13), none⟩] [0, 3, 4]))))))
 (.seq (.reg [
     ⟨(some 22), .mv (.tmp 3), none⟩,
     ⟨(some 2), .mv (.tmp 22), none⟩] [2])
 (.ret))))
theorem s_laws_toInt64SS : stripF Try.prog 30 [[0], [0, 3], [0, 3, 4], [0, 3, 4], [0, 3, 4, 11], [0, 3, 4], [0, 3, 4], [2]] = some (c_laws_toInt64SS, [.tmp 2], 23) := by kernel_rfl

/-- loop.example/g00920/laws.toInt64S -/
abbrev f_laws_toInt64S : Nat := 34
def c_laws_toInt64S : SC :=
 .seq (.reg [
     ⟨(some 2), .mv (.const (.slice none 0 0)), none⟩] [0])
 (.seq (.reg [
     ⟨(some 5), .mv (.tmp 0), none⟩,
     ⟨(some 6), .len (.tmp 5), none⟩,
     ⟨(some 7), .mslice 2 8 (.int .i64 0) (.tmp 6) (.tmp 6), none⟩,
     ⟨(some 3), .mv (.tmp 7), none⟩] [0, 3])
 (.seq (.seq (.reg [
     ⟨(some 4), .mv (.const (.int .i64 0)), none⟩] [0, 3, 4])
 (.block 0 (.loop [0, 3, 4]
   (.seq (.seq (.reg [
       ⟨(some 8), .mv (.tmp 4), none⟩,
       ⟨(some 9), .mv (.tmp 0), none⟩,
       ⟨(some 10), .len (.tmp 9), none⟩,
       ⟨(some 11), .bin .lss (.tmp 8) (.tmp 10), none⟩] [0, 3, 4, 11])
   (.cond (.tmp 11)
    (.skip)
    (.exit 0)))
   (.seq (.block 1 (.reg [
        ⟨(some 14), .mv (.tmp 3), none⟩,
        ⟨(some 15), .mv (.tmp 4), none⟩,
        ⟨(some 16), .mv (.tmp 0), none⟩,
        ⟨(some 17), .mv (.tmp 4), none⟩,
        ⟨(some 18), .iaddr 1 (.tmp 16) (.tmp 17), none⟩,
        ⟨(some 19), .load 1 false (.tmp 18), none⟩,
        ⟨(some 20), .iaddr 1 (.tmp 14) (.tmp 15), none⟩,
        ⟨none, .store 1 (.tmp 20) (.tmp 19), none⟩] [0, 3, 4]))
   (.reg [
       ⟨(some 12), .mv (.tmp 4), none⟩,
       ⟨(some 13), .bin .add (.tmp 12) (.const (.int .i64 1)), none⟩,
       ⟨(some 4), .mv (.tmp 13), none⟩] [0, 3, 4]))))))
 (.seq (.reg [
     ⟨(some 21), .mv (.tmp 3), none⟩,
     ⟨(some 2), .mv (.tmp 21), none⟩] [2])
 (.ret))))
theorem s_laws_toInt64S : stripF Try.prog 34 [[0], [0, 3], [0, 3, 4], [0, 3, 4], [0, 3, 4, 11], [0, 3, 4], [0, 3, 4], [2]] = some (c_laws_toInt64S, [.tmp 2], 22) := by kernel_rfl

/-- loop.example/g00920/spec.l10Same -/
abbrev f_spec_l10Same : Nat := 62
def c_spec_l10Same : SC :=
 .seq (.reg [
     ⟨(some 4), .mv (.const (.bool false)), none⟩] [0, 1])
 (.seq (.seq (.reg [
     ⟨(some 6), .mv (.tmp 0), none⟩,
     ⟨(some 7), .len (.tmp 6), none⟩,
     ⟨(some 8), .mv (.tmp 1), none⟩,
     ⟨(some 9), .len (.tmp 8), none⟩,
     ⟨(some 10), .bin .neq (.tmp 7) (.tmp 9), none⟩] [0, 1, 10])
 (.cond (.tmp 10)
  (.seq (.reg [
      ⟨(some 4), .mv (.const (.bool false)), none⟩] [4])
  (.ret))
  (.skip)))
 (.seq (.seq (.reg [
     ⟨(some 5), .mv (.const (.int .i64 0)), none⟩] [0, 1, 5])
 (.block 0 (.loop [0, 1, 5]
   (.seq (.seq (.reg [
       ⟨(some 11), .mv (.tmp 5), none⟩,
       ⟨(some 12), .mv (.tmp 0), none⟩,
       ⟨(some 13), .len (.tmp 12), none⟩,
       ⟨(some 14), .bin .lss (.tmp 11) (.tmp 13), none⟩] [0, 1, 5, 14])
   (.cond (.tmp 14)
    (.skip)
    (.exit 0)))
   (.seq (.block 1 (.seq (.reg [
        ⟨(some 17), .mv (.tmp 0), none⟩,
        ⟨(some 18), .mv (.tmp 5), none⟩,
        ⟨(some 19), .iaddr 1 (.tmp 17) (.tmp 18), none⟩,
        ⟨(some 20), .load 1 false (.tmp 19), none⟩,
        ⟨(some 21), .mv (.tmp 1), none⟩,
        ⟨(some 22), .mv (.tmp 5), none⟩,
        ⟨(some 23), .iaddr 1 (.tmp 21) (.tmp 22), none⟩,
        ⟨(some 24), .load 1 false (.tmp 23), none⟩,
        ⟨(some 25), .qcall 111 [(.tmp 20), (.tmp 24)], none⟩,
        ⟨(some 26), .un .not (.tmp 25), none⟩] [0, 1, 5, 26])
    (.cond (.tmp 26)
     (.seq (.reg [
         ⟨(some 4), .mv (.const (.bool false)), none⟩] [4])
     (.ret))
     (.skip))))
   (.reg [
       ⟨(some 15), .mv (.tmp 5), none⟩,
       ⟨(some 16), .bin .add (.tmp 15) (.const (.int .i64 1)), none⟩,
       ⟨(some 5), .mv (.tmp 16), none⟩] [0, 1, 5]))))))
 (.seq (.reg [
     ⟨(some 4), .mv (.const (.bool true)), none⟩] [4])
 (.ret))))
theorem s_spec_l10Same : stripF Try.prog 62 [[0, 1], [0, 1, 10], [4], [0, 1, 5], [0, 1, 5], [0, 1, 5, 14], [0, 1, 5, 26], [4], [0, 1, 5], [4]] = some (c_spec_l10Same, [.tmp 4], 27) := by kernel_rfl

/-- loop.example/g00920/impl.areSame -/
abbrev f_impl_areSame : Nat := 63
def c_impl_areSame : SC :=
 .seq (.reg [
     ⟨(some 4), .mv (.const (.bool false)), none⟩] [0, 1])
 (.seq (.reg [
     ⟨(some 5), .mv (.tmp 0), none⟩,
     ⟨(some 6), .mv (.tmp 1), none⟩,
     ⟨(some 7), .call 112 [(.tmp 5), (.tmp 6), (.func 113)], none⟩,
     ⟨(some 4), .mv (.tmp 7), none⟩] [4])
 (.ret))
theorem s_impl_areSame : stripF Try.prog 63 [[0, 1], [4]] = some (c_impl_areSame, [.tmp 4], 8) := by kernel_rfl

/-- loop.example/g00920/laws.szInt64S -/
abbrev f_laws_szInt64S : Nat := 74
def c_laws_szInt64S : SC :=
 .seq (.reg [
     ⟨(some 4), .mv (.const (.int .i64 0)), none⟩] [0, 1])
 (.seq (.reg [
     ⟨(some 5), .mv (.tmp 1), none⟩,
     ⟨(some 6), .mv (.tmp 0), none⟩,
     ⟨(some 7), .len (.tmp 6), none⟩,
     ⟨(some 8), .bin .sub (.tmp 5) (.tmp 7), none⟩,
     ⟨(some 1), .mv (.tmp 8), none⟩] [1])
 (.seq (.seq (.reg [
     ⟨(some 9), .mv (.tmp 1), none⟩,
     ⟨(some 10), .bin .lss (.tmp 9) (.const (.int .i64 0)), none⟩] [1, 10])
 (.cond (.tmp 10)
  (.seq (.reg [
      ⟨(some 4), .mv (.const (.int .i64 (-1))), none⟩] [4])
  (.ret))
  (.skip)))
 (.seq (.reg [
     ⟨(some 11), .mv (.tmp 1), none⟩,
     ⟨(some 4), .mv (.tmp 11), none⟩] [4])
 (.ret))))
theorem s_laws_szInt64S : stripF Try.prog 74 [[0, 1], [1], [1, 10], [4], [4]] = some (c_laws_szInt64S, [.tmp 4], 12) := by kernel_rfl

/-- loop.example/g00920/spec.l00Same -/
abbrev f_spec_l00Same : Nat := 111
def c_spec_l00Same : SC :=
 .seq (.reg [
     ⟨(some 4), .mv (.const (.bool false)), none⟩] [0, 1])
 (.seq (.seq (.reg [
     ⟨(some 6), .mv (.tmp 0), none⟩,
     ⟨(some 7), .len (.tmp 6), none⟩,
     ⟨(some 8), .mv (.tmp 1), none⟩,
     ⟨(some 9), .len (.tmp 8), none⟩,
     ⟨(some 10), .bin .neq (.tmp 7) (.tmp 9), none⟩] [0, 1, 10])
 (.cond (.tmp 10)
  (.seq (.reg [
      ⟨(some 4), .mv (.const (.bool false)), none⟩] [4])
  (.ret))
  (.skip)))
 (.seq (.seq (.reg [
     ⟨(some 5), .mv (.const (.int .i64 0)), none⟩] [0, 1, 5])
 (.block 0 (.loop [0, 1, 5]
   (.seq (.seq (.reg [
       ⟨(some 11), .mv (.tmp 5), none⟩,
       ⟨(some 12), .mv (.tmp 0), none⟩,
       ⟨(some 13), .len (.tmp 12), none⟩,
       ⟨(some 14), .bin .lss (.tmp 11) (.tmp 13), none⟩] [0, 1, 5, 14])
   (.cond (.tmp 14)
    (.skip)
    (.exit 0)))
   (.seq (.block 1 (.seq (.reg [
        ⟨(some 17), .mv (.tmp 0), none⟩,
        ⟨(some 18), .mv (.tmp 5), none⟩,
        ⟨(some 19), .iaddr 1 (.tmp 17) (.tmp 18), none⟩,
        ⟨(some 20), .load 1 false (.tmp 19), none⟩,
        ⟨(some 21), .mv (.tmp 1), none⟩,
        ⟨(some 22), .mv (.tmp 5), none⟩,
        ⟨(some 23), .iaddr 1 (.tmp 21) (.tmp 22), none⟩,
        ⟨(some 24), .load 1 false (.tmp 23), none⟩,
        ⟨(some 25), .bin .neq (.tmp 20) (.tmp 24), none⟩] [0, 1, 5, 25])
    (.cond (.tmp 25)
     (.seq (.reg [
         ⟨(some 4), .mv (.const (.bool false)), none⟩] [4])
     (.ret))
     (.skip))))
   (.reg [
       ⟨(some 15), .mv (.tmp 5), none⟩,
       ⟨(some 16), .bin .add (.tmp 15) (.const (.int .i64 1)), none⟩,
       ⟨(some 5), .mv (.tmp 16), none⟩] [0, 1, 5]))))))
 (.seq (.reg [
     ⟨(some 4), .mv (.const (.bool true)), none⟩] [4])
 (.ret))))
theorem s_spec_l00Same : stripF Try.prog 111 [[0, 1], [0, 1, 10], [4], [0, 1, 5], [0, 1, 5], [0, 1, 5, 14], [0, 1, 5, 25], [4], [0, 1, 5], [4]] = some (c_spec_l00Same, [.tmp 4], 26) := by kernel_rfl

/-- slices.EqualFunc[[][]int64,[][]int64,[]int64,[]int64] -/
abbrev f_slices_EqualFunc_LLint64_LLint64_Lint64_Lint64 : Nat := 112
def c_slices_EqualFunc_LLint64_LLint64_Lint64_Lint64 : SC :=
 .seq (.reg [
     ⟨(some 6), .mv (.const (.bool false)), none⟩] [0, 1, 2])
 (.seq (.seq (.reg [
     ⟨(some 10), .mv (.tmp 0), none⟩,
     ⟨(some 11), .len (.tmp 10), none⟩,
     ⟨(some 12), .mv (.tmp 1), none⟩,
     ⟨(some 13), .len (.tmp 12), none⟩,
     ⟨(some 14), .bin .neq (.tmp 11) (.tmp 13), none⟩] [0, 1, 2, 14])
 (.cond (.tmp 14)
  (.seq (.reg [
      ⟨(some 6), .mv (.const (.bool false)), none⟩] [6])
  (.ret))
  (.skip)))
 (.seq (.seq (.reg [
     ⟨(some 15), .mv (.tmp 0), none⟩,
     ⟨(some 16), .len (.tmp 15), none⟩,
     ⟨(some 17), .mv (.const (.int .i64 0)), none⟩] [1, 2, 15, 16, 17])
 (.block 0 (.loop [1, 2, 15, 16, 17]
   (.seq (.reg [
       ⟨(some 18), .bin .lss (.tmp 17) (.tmp 16), none⟩] [1, 2, 15, 16, 17, 18])
   (.seq (.cond (.tmp 18)
    (.skip)
    (.exit 0))
   (.seq (.block 1 (.seq (.reg [
        ⟨(some 19), .mv (.tmp 17), none⟩,
        ⟨(some 20), .iaddr 1 (.tmp 15) (.tmp 17), none⟩,
        ⟨(some 21), .load 1 false (.tmp 20), none⟩,
        ⟨(some 7), .mv (.tmp 19), none⟩,
        ⟨(some 8), .mv (.tmp 21), none⟩] [1, 2, 7, 8, 15, 16, 17])
    (.seq (.reg [
        ⟨(some 22), .mv (.tmp 1), none⟩,
        ⟨(some 23), .mv (.tmp 7), none⟩,
        ⟨(some 24), .iaddr 1 (.tmp 22) (.tmp 23), none⟩,
        ⟨(some 25), .load 1 false (.tmp 24), none⟩,
        ⟨(some 9), .mv (.tmp 25), none⟩] [1, 2, 8, 9, 15, 16, 17])
    (.seq (.reg [
        ⟨(some 26), .mv (.tmp 2), none⟩,
        ⟨(some 27), .mv (.tmp 8), none⟩,
        ⟨(some 28), .mv (.tmp 9), none⟩,
        ⟨(some 29), .callv (.tmp 26) [(.tmp 27), (.tmp 28)], none⟩,
        ⟨(some 30), .un .not (.tmp 29), none⟩] [1, 2, 15, 16, 17, 30])
    (.cond (.tmp 30)
     (.seq (.reg [
         ⟨(some 6), .mv (.const (.bool false)), none⟩] [6])
     (.ret))
     (.skip))))))
   (.reg [
       ⟨(some 31), .bin .add (.tmp 17) (.const (.int .i64 1)), none⟩,
       ⟨(some 17), .mv (.tmp 31), none⟩] [1, 2, 15, 16, 17])))))))
 (.seq (.reg [
     ⟨(some 6), .mv (.const (.bool true)), none⟩] [6])
 (.ret))))
theorem s_slices_EqualFunc_LLint64_LLint64_Lint64_Lint64 : stripF Try.prog 112 [[0, 1, 2], [0, 1, 2, 14], [6], [1, 2, 15, 16, 17], [1, 2, 15, 16, 17], [1, 2, 15, 16, 17, 18], [1, 2, 7, 8, 15, 16, 17], [1, 2, 8, 9, 15, 16, 17], [1, 2, 15, 16, 17, 30], [6], [1, 2, 15, 16, 17], [6]] = some (c_slices_EqualFunc_LLint64_LLint64_Lint64_Lint64, [.tmp 6], 32) := by kernel_rfl

/-- slices.Equal[[]int64,int64] -/
abbrev f_slices_Equal_Lint64_int64 : Nat := 113
def c_slices_Equal_Lint64_int64 : SC :=
 .seq (.reg [
     ⟨(some 4), .mv (.const (.bool false)), none⟩] [0, 1])
 (.seq (.seq (.reg [
     ⟨(some 6), .mv (.tmp 0), none⟩,
     ⟨(some 7), .len (.tmp 6), none⟩,
     ⟨(some 8), .mv (.tmp 1), none⟩,
     ⟨(some 9), .len (.tmp 8), none⟩,
     ⟨(some 10), .bin .neq (.tmp 7) (.tmp 9), none⟩] [0, 1, 10])
 (.cond (.tmp 10)
  (.seq (.reg [
      ⟨(some 4), .mv (.const (.bool false)), none⟩] [4])
  (.ret))
  (.skip)))
 (.seq (.seq (.reg [
     ⟨(some 11), .mv (.tmp 0), none⟩,
     ⟨(some 12), .len (.tmp 11), none⟩,
     ⟨(some 13), .mv (.const (.int .i64 0)), none⟩] [0, 1, 12, 13])
 (.block 0 (.loop [0, 1, 12, 13]
   (.seq (.reg [
       ⟨(some 14), .bin .lss (.tmp 13) (.tmp 12), none⟩] [0, 1, 12, 13, 14])
   (.seq (.cond (.tmp 14)
    (.skip)
    (.exit 0))
   (.seq (.block 1 (.seq (.reg [
        ⟨(some 15), .mv (.tmp 13), none⟩,
        ⟨(some 5), .mv (.tmp 15), none⟩] [0, 1, 5, 12, 13])
    (.seq (.reg [
        ⟨(some 16), .mv (.tmp 0), none⟩,
        ⟨(some 17), .mv (.tmp 5), none⟩,
        ⟨(some 18), .iaddr 1 (.tmp 16) (.tmp 17), none⟩,
        ⟨(some 19), .load 1 false (.tmp 18), none⟩,
        ⟨(some 20), .mv (.tmp 1), none⟩,
        ⟨(some 21), .mv (.tmp 5), none⟩,
        ⟨(some 22), .iaddr 1 (.tmp 20) (.tmp 21), none⟩,
        ⟨(some 23), .load 1 false (.tmp 22), none⟩,
        ⟨(some 24), .bin .neq (.tmp 19) (.tmp 23), none⟩] [0, 1, 12, 13, 24])
    (.cond (.tmp 24)
     (.seq (.reg [
         ⟨(some 4), .mv (.const (.bool false)), none⟩] [4])
     (.ret))
     (.skip)))))
   (.reg [
       ⟨(some 25), .bin .add (.tmp 13) (.const (.int .i64 1)), none⟩,
       ⟨(some 13), .mv (.tmp 25), none⟩] [0, 1, 12, 13])))))))
 (.seq (.reg [
     ⟨(some 4), .mv (.const (.bool true)), none⟩] [4])
 (.ret))))
theorem s_slices_Equal_Lint64_int64 : stripF Try.prog 113 [[0, 1], [0, 1, 10], [4], [0, 1, 12, 13], [0, 1, 12, 13], [0, 1, 12, 13, 14], [0, 1, 5, 12, 13], [0, 1, 12, 13, 24], [4], [0, 1, 12, 13], [4]] = some (c_slices_Equal_Lint64_int64, [.tmp 4], 26) := by kernel_rfl

end Go.Proofs.Ytmgbglekgigkmaa
