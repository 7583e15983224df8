/- MADE BY PROGRAM (wip/gen.sh, wip/Gen.lean.tpl): the abstract code of functions, tied to the program by the kernel. -/
import Derived.Test.YtmgbglekgigkmaaAv11
import Derived.Test.YtmgbglekgigkmaaProg
import Derived.KernelRfl
namespace Go.Proofs.Ytmgbglekgigkmaa
open Go.Av

/-- loop.example/g00920/laws.FnExactSquareCover -/
abbrev f_laws_FnExactSquareCover : Nat := 3
def c_laws_FnExactSquareCover : SC :=
 .seq (.reg [
     ⟨(some 2), .mv (.const (.bool false)), none⟩] [0])
 (.seq (.reg [
     ⟨(some 12), .mv (.tmp 0), none⟩,
     ⟨(some 13), .call 15 [(.tmp 12)], none⟩,
     ⟨(some 11), .mv (.tmp 13), none⟩,
     ⟨(some 14), .ext (.tmp 11) 0, none⟩,
     ⟨(some 15), .ext (.tmp 11) 1, none⟩,
     ⟨(some 3), .alloc 24 [(.int .i64 0), (.slice none 0 0)], none⟩,
     ⟨none, .store 2 (.tmp 3) (.tmp 14), none⟩,
     ⟨(some 4), .mv (.tmp 15), none⟩] [0, 3, 4])
 (.seq (.reg [
     ⟨(some 17), .mv (.tmp 0), none⟩,
     ⟨(some 18), .call 16 [(.tmp 17)], none⟩,
     ⟨(some 16), .mv (.tmp 18), none⟩,
     ⟨(some 19), .ext (.tmp 16) 0, none⟩,
     ⟨(some 20), .ext (.tmp 16) 1, none⟩,
     ⟨(some 5), .alloc 24 [(.int .i64 0), (.slice none 0 0)], none⟩,
     ⟨none, .store 2 (.tmp 5) (.tmp 19), none⟩,
     ⟨(some 6), .mv (.tmp 20), none⟩] [0, 3, 4, 5, 6])
 (.seq (.seq (.reg [
     ⟨(some 21), .load 2 true (.tmp 5), none⟩,
     ⟨(some 22), .load 2 true (.tmp 3), none⟩,
     ⟨(some 23), .call 17 [(.tmp 21), (.tmp 22)], none⟩,
     ⟨(some 24), .un .not (.tmp 23), none⟩,
     ⟨(some 25), .mv (.tmp 24), none⟩,
     ⟨(some 26), .mv (.tmp 6), (some (25, false))⟩,
     ⟨(some 27), .mv (.tmp 4), (some (25, false))⟩,
     ⟨(some 28), .bin .neq (.tmp 26) (.tmp 27), (some (25, false))⟩,
     ⟨(some 29), .pick (.tmp 25) (.const (.bool true)) (.tmp 28), none⟩] [0, 3, 4, 5, 29])
 (.cond (.tmp 29)
  (.seq (.reg [
      ⟨(some 2), .mv (.const (.bool false)), none⟩] [2])
  (.ret))
  (.skip)))
 (.seq (.reg [
     ⟨(some 7), .mv (.const (.int .i64 1)), none⟩] [0, 3, 4, 5, 7])
 (.seq (.reg [
     ⟨(some 30), .load 2 true (.tmp 5), none⟩,
     ⟨(some 31), .mv (.tmp 7), none⟩,
     ⟨(some 32), .call 18 [(.tmp 30), (.tmp 31)], none⟩,
     ⟨(some 7), .mv (.tmp 32), none⟩] [0, 3, 4, 5, 7])
 (.seq (.reg [
     ⟨(some 8), .mv (.const (.int .i64 1)), none⟩] [0, 3, 4, 5, 7, 8])
 (.seq (.reg [
     ⟨(some 33), .load 2 true (.tmp 5), none⟩,
     ⟨(some 34), .mv (.tmp 8), none⟩,
     ⟨(some 35), .call 19 [(.tmp 33), (.tmp 34)], none⟩,
     ⟨(some 8), .mv (.tmp 35), none⟩] [0, 3, 4, 5, 7, 8])
 (.seq (.seq (.reg [
     ⟨(some 36), .mv (.tmp 8), none⟩,
     ⟨(some 37), .bin .lss (.tmp 36) (.const (.int .i64 0)), none⟩] [0, 3, 4, 5, 7, 8, 37])
 (.cond (.tmp 37)
  (.seq (.reg [
      ⟨(some 2), .mv (.const (.bool false)), none⟩] [2])
  (.ret))
  (.skip)))
 (.seq (.seq (.reg [
     ⟨(some 38), .mv (.tmp 8), none⟩,
     ⟨(some 39), .mv (.tmp 7), none⟩,
     ⟨(some 40), .bin .neq (.tmp 38) (.tmp 39), none⟩] [0, 3, 4, 5, 7, 40])
 (.cond (.tmp 40)
  (.seq (.reg [
      ⟨(some 2), .mv (.const (.bool false)), none⟩] [2])
  (.ret))
  (.skip)))
 (.seq (.reg [
     ⟨(some 42), .mv (.tmp 0), none⟩,
     ⟨(some 43), .call 16 [(.tmp 42)], none⟩,
     ⟨(some 41), .mv (.tmp 43), none⟩,
     ⟨(some 44), .ext (.tmp 41) 0, none⟩,
     ⟨(some 45), .ext (.tmp 41) 1, none⟩,
     ⟨(some 9), .alloc 24 [(.int .i64 0), (.slice none 0 0)], none⟩,
     ⟨none, .store 2 (.tmp 9) (.tmp 44), none⟩,
     ⟨(some 10), .mv (.tmp 45), none⟩] [3, 4, 5, 7, 9, 10])
 (.seq (.seq (.reg [
     ⟨(some 46), .load 2 true (.tmp 9), none⟩,
     ⟨(some 47), .load 2 true (.tmp 3), none⟩,
     ⟨(some 48), .call 17 [(.tmp 46), (.tmp 47)], none⟩,
     ⟨(some 49), .un .not (.tmp 48), none⟩,
     ⟨(some 50), .mv (.tmp 49), none⟩,
     ⟨(some 51), .mv (.tmp 10), (some (50, false))⟩,
     ⟨(some 52), .mv (.tmp 4), (some (50, false))⟩,
     ⟨(some 53), .bin .neq (.tmp 51) (.tmp 52), (some (50, false))⟩,
     ⟨(some 54), .pick (.tmp 50) (.const (.bool true)) (.tmp 53), none⟩] [5, 7, 54])
 (.cond (.tmp 54)
  (.seq (.reg [
      ⟨(some 2), .mv (.const (.bool false)), none⟩] [2])
  (.ret))
  (.skip)))
 (.seq (.reg [
     ⟨(some 8), .mv (.const (.int .i64 1)), none⟩] [5, 7, 8])
 (.seq (.reg [
     ⟨(some 55), .load 2 true (.tmp 5), none⟩,
     ⟨(some 56), .mv (.tmp 8), none⟩,
     ⟨(some 57), .call 19 [(.tmp 55), (.tmp 56)], none⟩,
     ⟨(some 8), .mv (.tmp 57), none⟩] [7, 8])
 (.seq (.seq (.reg [
     ⟨(some 58), .mv (.tmp 8), none⟩,
     ⟨(some 59), .bin .lss (.tmp 58) (.const (.int .i64 0)), none⟩] [7, 8, 59])
 (.cond (.tmp 59)
  (.seq (.reg [
      ⟨(some 2), .mv (.const (.bool false)), none⟩] [2])
  (.ret))
  (.skip)))
 (.seq (.seq (.reg [
     ⟨(some 60), .mv (.tmp 8), none⟩,
     ⟨(some 61), .mv (.tmp 7), none⟩,
     ⟨(some 62), .bin .neq (.tmp 60) (.tmp 61), none⟩] [62])
 (.cond (.tmp 62)
  (.seq (.reg [
      ⟨(some 2), .mv (.const (.bool false)), none⟩] [2])
  (.ret))
  (.skip)))
 (.seq (.reg [
     ⟨(some 2), .mv (.const (.bool true)), none⟩] [2])
 (.ret)))))))))))))))))
theorem s_laws_FnExactSquareCover : stripF Try.prog 3 [[0], [0, 3, 4], [0, 3, 4, 5, 6], [0, 3, 4, 5, 29], [2], [0, 3, 4, 5, 7], [0, 3, 4, 5, 7], [0, 3, 4, 5, 7, 8], [0, 3, 4, 5, 7, 8], [0, 3, 4, 5, 7, 8, 37], [2], [0, 3, 4, 5, 7, 40], [2], [3, 4, 5, 7, 9, 10], [5, 7, 54], [2], [5, 7, 8], [7, 8], [7, 8, 59], [2], [62], [2], [2]] = some (c_laws_FnExactSquareCover, [.tmp 2], 63) := by kernel_rfl

/-- loop.example/g00920/spec.SquareCover -/
abbrev f_spec_SquareCover : Nat := 15
def c_spec_SquareCover : SC :=
 .seq (.reg [
     ⟨(some 2), .alloc 24 [(.int .i64 0), (.slice none 0 0)], none⟩,
     ⟨(some 3), .mv (.const (.int .i64 0)), none⟩] [0, 2])
 (.seq (.seq (.reg [
     ⟨(some 4), .mv (.tmp 0), none⟩,
     ⟨(some 5), .call 57 [(.tmp 4), (.const (.int .i64 1)), (.const (.int .i64 4))], none⟩,
     ⟨(some 6), .un .not (.tmp 5), none⟩] [0, 2, 6])
 (.cond (.tmp 6)
  (.seq (.reg [
      ⟨(some 7), .build [(.int .i64 0), (.slice none 0 0)] [], none⟩,
      ⟨none, .store 2 (.tmp 2) (.tmp 7), none⟩,
      ⟨(some 3), .mv (.const (.int .i64 2)), none⟩] [2, 3])
  (.ret))
  (.skip)))
 (.seq (.reg [
     ⟨(some 8), .mv (.tmp 0), none⟩,
     ⟨(some 9), .call 58 [(.tmp 8)], none⟩,
     ⟨none, .store 2 (.tmp 2) (.tmp 9), none⟩,
     ⟨(some 3), .mv (.const (.int .i64 0)), none⟩] [2, 3])
 (.ret)))
theorem s_spec_SquareCover : stripF Try.prog 15 [[0, 2], [0, 2, 6], [2, 3], [2, 3]] = some (c_spec_SquareCover, [.cell 2 2, .tmp 3], 10) := by kernel_rfl

/-- loop.example/g00920/impl.SquareCover -/
abbrev f_impl_SquareCover : Nat := 16
def c_impl_SquareCover : SC :=
 .seq (.reg [
     ⟨(some 2), .alloc 24 [(.int .i64 0), (.slice none 0 0)], none⟩,
     ⟨(some 3), .mv (.const (.int .i64 0)), none⟩] [0, 2])
 (.seq (.seq (.reg [
     ⟨(some 7), .mv (.tmp 0), none⟩,
     ⟨(some 8), .call 59 [(.tmp 7), (.const (.int .i64 1)), (.const (.int .i64 4))], none⟩,
     ⟨(some 9), .un .not (.tmp 8), none⟩] [0, 2, 9])
 (.cond (.tmp 9)
  (.seq (.reg [
      ⟨(some 10), .build [(.int .i64 0), (.slice none 0 0)] [], none⟩,
      ⟨none, .store 2 (.tmp 2) (.tmp 10), none⟩,
      ⟨(some 3), .mv (.const (.int .i64 2)), none⟩] [2, 3])
  (.ret))
  (.skip)))
 (.seq (.reg [
     ⟨(some 11), .mv (.tmp 0), none⟩,
     ⟨(some 12), .bin .mul (.const (.int .i64 3)) (.tmp 11), none⟩,
     ⟨(some 13), .mv (.tmp 0), none⟩,
     ⟨(some 14), .bin .mul (.tmp 12) (.tmp 13), none⟩,
     ⟨(some 15), .build [(.int .i64 0), (.slice none 0 0)] [(0, 1, (.tmp 14))], none⟩,
     ⟨(some 4), .alloc 24 [(.int .i64 0), (.slice none 0 0)], none⟩,
     ⟨none, .store 2 (.tmp 4) (.tmp 15), none⟩] [0, 2, 4])
 (.seq (.seq (.reg [
     ⟨(some 16), .mv (.tmp 0), none⟩,
     ⟨(some 17), .mv (.tmp 0), none⟩,
     ⟨(some 18), .bin .mul (.tmp 16) (.tmp 17), none⟩,
     ⟨(some 19), .mv (.const (.int .i64 0)), none⟩] [0, 2, 4, 18, 19])
 (.block 0 (.loop [0, 2, 4, 18, 19]
   (.seq (.reg [
       ⟨(some 20), .bin .lss (.tmp 19) (.tmp 18), none⟩] [0, 2, 4, 18, 19, 20])
   (.seq (.cond (.tmp 20)
    (.skip)
    (.exit 0))
   (.seq (.block 1 (.seq (.reg [
        ⟨(some 21), .mv (.tmp 19), none⟩,
        ⟨(some 5), .mv (.tmp 21), none⟩] [0, 2, 4, 5, 18, 19])
    (.seq (.reg [
        ⟨(some 22), .mv (.tmp 0), none⟩,
        ⟨(some 23), .mv (.const (.int .i64 0)), none⟩] [0, 2, 4, 5, 18, 19, 22, 23])
    (.block 2 (.loop [0, 2, 4, 5, 18, 19, 22, 23]
      (.seq (.reg [
          ⟨(some 24), .bin .lss (.tmp 23) (.tmp 22), none⟩] [0, 2, 4, 5, 18, 19, 22, 23, 24])
      (.seq (.cond (.tmp 24)
       (.skip)
       (.exit 2))
      (.seq (.block 3 (.seq (.reg [
           ⟨(some 25), .mv (.tmp 23), none⟩,
           ⟨(some 6), .mv (.tmp 25), none⟩] [0, 2, 4, 5, 6, 18, 19, 22, 23])
       (.reg [
           ⟨(some 26), .faddr 1 (.tmp 4), none⟩,
           ⟨(some 27), .load 1 false (.tmp 26), none⟩,
           ⟨(some 28), .mv (.tmp 5), none⟩,
           ⟨(some 29), .mv (.tmp 0), none⟩,
           ⟨(some 30), .mv (.tmp 0), none⟩,
           ⟨(some 31), .bin .mul (.tmp 29) (.tmp 30), none⟩,
           ⟨(some 32), .mv (.tmp 5), none⟩,
           ⟨(some 33), .mv (.tmp 0), none⟩,
           ⟨(some 34), .bin .quo (.tmp 32) (.tmp 33), none⟩,
           ⟨(some 35), .mv (.tmp 0), none⟩,
           ⟨(some 36), .bin .mul (.tmp 34) (.tmp 35), none⟩,
           ⟨(some 37), .bin .add (.tmp 31) (.tmp 36), none⟩,
           ⟨(some 38), .mv (.tmp 6), none⟩,
           ⟨(some 39), .bin .add (.tmp 37) (.tmp 38), none⟩,
           ⟨(some 40), .mv (.tmp 0), none⟩,
           ⟨(some 41), .bin .mul (.const (.int .i64 2)) (.tmp 40), none⟩,
           ⟨(some 42), .mv (.tmp 0), none⟩,
           ⟨(some 43), .bin .mul (.tmp 41) (.tmp 42), none⟩,
           ⟨(some 44), .mv (.tmp 5), none⟩,
           ⟨(some 45), .mv (.tmp 0), none⟩,
           ⟨(some 46), .bin .rem (.tmp 44) (.tmp 45), none⟩,
           ⟨(some 47), .mv (.tmp 0), none⟩,
           ⟨(some 48), .bin .mul (.tmp 46) (.tmp 47), none⟩,
           ⟨(some 49), .bin .add (.tmp 43) (.tmp 48), none⟩,
           ⟨(some 50), .mv (.tmp 6), none⟩,
           ⟨(some 51), .bin .add (.tmp 49) (.tmp 50), none⟩,
           ⟨(some 52), .bslice 2 1 3 [(.int .i64 0), (.int .i64 0), (.int .i64 0)] [(0, (.tmp 28)), (1, (.tmp 39)), (2, (.tmp 51))], none⟩,
           ⟨(some 53), .bslice 42 1 1 [(.slice none 0 0)] [(0, (.tmp 52))], none⟩,
           ⟨(some 54), .app 42 1 24 (.tmp 27) (.tmp 53), none⟩,
           ⟨(some 55), .faddr 1 (.tmp 4), none⟩,
           ⟨none, .store 1 (.tmp 55) (.tmp 54), none⟩] [0, 2, 4, 5, 18, 19, 22, 23])))
      (.reg [
          ⟨(some 56), .bin .add (.tmp 23) (.const (.int .i64 1)), none⟩,
          ⟨(some 23), .mv (.tmp 56), none⟩] [0, 2, 4, 5, 18, 19, 22, 23])))))))))
   (.reg [
       ⟨(some 57), .bin .add (.tmp 19) (.const (.int .i64 1)), none⟩,
       ⟨(some 19), .mv (.tmp 57), none⟩] [0, 2, 4, 18, 19])))))))
 (.seq (.reg [
     ⟨(some 58), .load 2 true (.tmp 4), none⟩,
     ⟨none, .store 2 (.tmp 2) (.tmp 58), none⟩,
     ⟨(some 3), .mv (.const (.int .i64 0)), none⟩] [2, 3])
 (.ret)))))
theorem s_impl_SquareCover : stripF Try.prog 16 [[0, 2], [0, 2, 9], [2, 3], [0, 2, 4], [0, 2, 4, 18, 19], [0, 2, 4, 18, 19], [0, 2, 4, 18, 19, 20], [0, 2, 4, 5, 18, 19], [0, 2, 4, 5, 18, 19, 22, 23], [0, 2, 4, 5, 18, 19, 22, 23], [0, 2, 4, 5, 18, 19, 22, 23, 24], [0, 2, 4, 5, 6, 18, 19, 22, 23], [0, 2, 4, 5, 18, 19, 22, 23], [0, 2, 4, 5, 18, 19, 22, 23], [0, 2, 4, 18, 19], [2, 3]] = some (c_impl_SquareCover, [.cell 2 2, .tmp 3], 59) := by kernel_rfl

/-- loop.example/g00920/laws.eqCover -/
abbrev f_laws_eqCover : Nat := 17
def c_laws_eqCover : SC :=
 .seq (.reg [
     ⟨(some 2), .box 24 (.tmp 0), none⟩,
     ⟨(some 3), .box 24 (.tmp 1), none⟩,
     ⟨(some 4), .mv (.const (.bool false)), none⟩] [2, 3])
 (.seq (.seq (.reg [
     ⟨(some 5), .faddr 0 (.tmp 2), none⟩,
     ⟨(some 6), .load 1 false (.tmp 5), none⟩,
     ⟨(some 7), .faddr 0 (.tmp 3), none⟩,
     ⟨(some 8), .load 1 false (.tmp 7), none⟩,
     ⟨(some 9), .bin .neq (.tmp 6) (.tmp 8), none⟩] [2, 3, 9])
 (.cond (.tmp 9)
  (.seq (.reg [
      ⟨(some 4), .mv (.const (.bool false)), none⟩] [4])
  (.ret))
  (.skip)))
 (.seq (.seq (.reg [
     ⟨(some 10), .faddr 1 (.tmp 2), none⟩,
     ⟨(some 11), .load 1 false (.tmp 10), none⟩,
     ⟨(some 12), .faddr 1 (.tmp 3), none⟩,
     ⟨(some 13), .load 1 false (.tmp 12), none⟩,
     ⟨(some 14), .call 32 [(.tmp 11), (.tmp 13)], none⟩,
     ⟨(some 15), .un .not (.tmp 14), none⟩] [15])
 (.cond (.tmp 15)
  (.seq (.reg [
      ⟨(some 4), .mv (.const (.bool false)), none⟩] [4])
  (.ret))
  (.skip)))
 (.seq (.reg [
     ⟨(some 4), .mv (.const (.bool true)), none⟩] [4])
 (.ret))))
theorem s_laws_eqCover : stripF Try.prog 17 [[2, 3], [2, 3, 9], [4], [15], [4], [4]] = some (c_laws_eqCover, [.tmp 4], 16) := by kernel_rfl

/-- loop.example/g00920/laws.markCover -/
abbrev f_laws_markCover : Nat := 18
def c_laws_markCover : SC :=
 .seq (.reg [
     ⟨(some 2), .box 24 (.tmp 0), none⟩,
     ⟨(some 4), .mv (.const (.int .i64 0)), none⟩] [1, 2])
 (.seq (.reg [
     ⟨(some 5), .faddr 1 (.tmp 2), none⟩,
     ⟨(some 6), .load 1 false (.tmp 5), none⟩,
     ⟨(some 7), .mv (.tmp 1), none⟩,
     ⟨(some 8), .call 60 [(.tmp 6), (.tmp 7)], none⟩,
     ⟨(some 1), .mv (.tmp 8), none⟩] [1])
 (.seq (.reg [
     ⟨(some 9), .mv (.tmp 1), none⟩,
     ⟨(some 4), .mv (.tmp 9), none⟩] [4])
 (.ret)))
theorem s_laws_markCover : stripF Try.prog 18 [[1, 2], [1], [4]] = some (c_laws_markCover, [.tmp 4], 10) := by kernel_rfl

/-- loop.example/g00920/laws.heldCover -/
abbrev f_laws_heldCover : Nat := 19
def c_laws_heldCover : SC :=
 .seq (.reg [
     ⟨(some 2), .box 24 (.tmp 0), none⟩,
     ⟨(some 4), .mv (.const (.int .i64 0)), none⟩] [1, 2])
 (.seq (.reg [
     ⟨(some 5), .faddr 1 (.tmp 2), none⟩,
     ⟨(some 6), .load 1 false (.tmp 5), none⟩,
     ⟨(some 7), .mv (.tmp 1), none⟩,
     ⟨(some 8), .call 61 [(.tmp 6), (.tmp 7)], none⟩,
     ⟨(some 1), .mv (.tmp 8), none⟩] [1])
 (.seq (.seq (.reg [
     ⟨(some 9), .mv (.tmp 1), none⟩,
     ⟨(some 10), .bin .lss (.tmp 9) (.const (.int .i64 0)), none⟩] [1, 10])
 (.cond (.tmp 10)
  (.seq (.reg [
      ⟨(some 4), .mv (.const (.int .i64 (-1))), none⟩] [4])
  (.ret))
  (.skip)))
 (.seq (.reg [
     ⟨(some 11), .mv (.tmp 1), none⟩,
     ⟨(some 4), .mv (.tmp 11), none⟩] [4])
 (.ret))))
theorem s_laws_heldCover : stripF Try.prog 19 [[1, 2], [1], [1, 10], [4], [4]] = some (c_laws_heldCover, [.tmp 4], 12) := by kernel_rfl

/-- loop.example/g00920/laws.eqInt64SS -/
abbrev f_laws_eqInt64SS : Nat := 32
def c_laws_eqInt64SS : SC :=
 .seq (.reg [
     ⟨(some 4), .mv (.const (.bool false)), none⟩] [0, 1])
 (.seq (.seq (.reg [
     ⟨(some 6), .mv (.tmp 0), none⟩,
     ⟨(some 7), .len (.tmp 6), none⟩,
     ⟨(some 8), .mv (.tmp 1), none⟩,
     ⟨(some 9), .len (.tmp 8), none⟩,
     ⟨(some 10), .bin .neq (.tmp 7) (.tmp 9), none⟩] [0, 1, 10])
 (.cond (.tmp 10)
  (.seq (.reg [
      ⟨(some 4), .mv (.const (.bool false)), none⟩] [4])
  (.ret))
  (.skip)))
 (.seq (.seq (.reg [
     ⟨(some 5), .mv (.const (.int .i64 0)), none⟩] [0, 1, 5])
 (.block 0 (.loop [0, 1, 5]
   (.seq (.seq (.reg [
       ⟨(some 11), .mv (.tmp 5), none⟩,
       ⟨(some 12), .mv (.tmp 0), none⟩,
       ⟨(some 13), .len (.tmp 12), none⟩,
       ⟨(some 14), .bin .lss (.tmp 11) (.tmp 13), none⟩] [0, 1, 5, 14])
   (.cond (.tmp 14)
    (.skip)
    (.exit 0)))
   (.seq (.block 1 (.seq (.reg [
        ⟨(some 17), .mv (.tmp 0), none⟩,
        ⟨(some 18), .mv (.tmp 5), none⟩,
        ⟨(some 19), .iaddr 1 (.tmp 17) (.tmp 18), none⟩,
        ⟨(some 20), .load 1 false (.tmp 19), none⟩,
        ⟨(some 21), .mv (.tmp 1), none⟩,
        ⟨(some 22), .mv (.tmp 5), none⟩,
        ⟨(some 23), .iaddr 1 (.tmp 21) (.tmp 22), none⟩,
        ⟨(some 24), .load 1 false (.tmp 23), none⟩,
        ⟨(some 25), .qcall 36 [(.tmp 20), (.tmp 24)], none⟩,
        ⟨(some 26), .un .not (.tmp 25), none⟩] [0, 1, 5, 26])
    (.cond (.tmp 26)
     (.seq (.reg [
         ⟨(some 4), .mv (.const (.bool false)), none⟩] [4])
     (.ret))
     (.skip))))
   (.reg [
       ⟨(some 15), .mv (.tmp 5), none⟩,
       ⟨(some 16), .bin .add (.tmp 15) (.const (.int .i64 1)), none⟩,
       ⟨(some 5), .mv (.tmp 16), none⟩] [0, 1, 5]))))))
 (.seq (.reg [
     ⟨(some 4), .mv (.const (.bool true)), none⟩] [4])
 (.ret))))
theorem s_laws_eqInt64SS : stripF Try.prog 32 [[0, 1], [0, 1, 10], [4], [0, 1, 5], [0, 1, 5], [0, 1, 5, 14], [0, 1, 5, 26], [4], [0, 1, 5], [4]] = some (c_laws_eqInt64SS, [.tmp 4], 27) := by kernel_rfl

/-- loop.example/g00920/laws.eqInt64S -/
abbrev f_laws_eqInt64S : Nat := 36
def c_laws_eqInt64S : SC :=
 .seq (.reg [
     ⟨(some 4), .mv (.const (.bool false)), none⟩] [0, 1])
 (.seq (.seq (.reg [
     ⟨(some 6), .mv (.tmp 0), none⟩,
     ⟨(some 7), .len (.tmp 6), none⟩,
     ⟨(some 8), .mv (.tmp 1), none⟩,
     ⟨(some 9), .len (.tmp 8), none⟩,
     ⟨(some 10), .bin .neq (.tmp 7) (.tmp 9), none⟩] [0, 1, 10])
 (.cond (.tmp 10)
  (.seq (.reg [
      ⟨(some 4), .mv (.const (.bool false)), none⟩] [4])
  (.ret))
  (.skip)))
 (.seq (.seq (.reg [
     ⟨(some 5), .mv (.const (.int .i64 0)), none⟩] [0, 1, 5])
 (.block 0 (.loop [0, 1, 5]
   (.seq (.seq (.reg [
       ⟨(some 11), .mv (.tmp 5), none⟩,
       ⟨(some 12), .mv (.tmp 0), none⟩,
       ⟨(some 13), .len (.tmp 12), none⟩,
       ⟨(some 14), .bin .lss (.tmp 11) (.tmp 13), none⟩] [0, 1, 5, 14])
   (.cond (.tmp 14)
    (.skip)
    (.exit 0)))
   (.seq (.block 1 (.seq (.reg [
        ⟨(some 17), .mv (.tmp 0), none⟩,
        ⟨(some 18), .mv (.tmp 5), none⟩,
        ⟨(some 19), .iaddr 1 (.tmp 17) (.tmp 18), none⟩,
        ⟨(some 20), .load 1 false (.tmp 19), none⟩,
        ⟨(some 21), .mv (.tmp 1), none⟩,
        ⟨(some 22), .mv (.tmp 5), none⟩,
        ⟨(some 23), .iaddr 1 (.tmp 21) (.tmp 22), none⟩,
        ⟨(some 24), .load 1 false (.tmp 23), none⟩,
        ⟨(some 25), .bin .neq (.tmp 20) (.tmp 24), none⟩] [0, 1, 5, 25])
    (.cond (.tmp 25)
     (.seq (.reg [
         ⟨(some 4), .mv (.const (.bool false)), none⟩] [4])
     (.ret))
     (.skip))))
   (.reg [
       ⟨(some 15), .mv (.tmp 5), none⟩,
       ⟨(some 16), .bin .add (.tmp 15) (.const (.int .i64 1)), none⟩,
       ⟨(some 5), .mv (.tmp 16), none⟩] [0, 1, 5]))))))
 (.seq (.reg [
     ⟨(some 4), .mv (.const (.bool true)), none⟩] [4])
 (.ret))))
theorem s_laws_eqInt64S : stripF Try.prog 36 [[0, 1], [0, 1, 10], [4], [0, 1, 5], [0, 1, 5], [0, 1, 5, 14], [0, 1, 5, 25], [4], [0, 1, 5], [4]] = some (c_laws_eqInt64S, [.tmp 4], 26) := by kernel_rfl

/-- loop.example/g00920/laws.markInt64S -/
abbrev f_laws_markInt64S : Nat := 45
def c_laws_markInt64S : SC :=
 .seq (.reg [
     ⟨(some 4), .mv (.const (.int .i64 0)), none⟩] [0, 1])
 (.seq (.seq (.reg [
     ⟨(some 5), .mv (.const (.int .i64 0)), none⟩] [0, 1, 5])
 (.block 0 (.loop [0, 1, 5]
   (.seq (.seq (.reg [
       ⟨(some 6), .mv (.tmp 5), none⟩,
       ⟨(some 7), .mv (.tmp 0), none⟩,
       ⟨(some 8), .len (.tmp 7), none⟩,
       ⟨(some 9), .bin .lss (.tmp 6) (.tmp 8), none⟩] [0, 1, 5, 9])
   (.cond (.tmp 9)
    (.skip)
    (.exit 0)))
   (.seq (.block 1 (.seq (.reg [
        ⟨(some 12), .mv (.tmp 0), none⟩,
        ⟨(some 13), .mv (.tmp 5), none⟩,
        ⟨(some 14), .mv (.tmp 1), none⟩,
        ⟨(some 15), .iaddr 1 (.tmp 12) (.tmp 13), none⟩,
        ⟨none, .store 1 (.tmp 15) (.tmp 14), none⟩] [0, 1, 5])
    (.reg [
        ⟨(some 16), .mv (.tmp 1), none⟩,
        ⟨(some 17), .bin .add (.tmp 16) (.const (.int .i64 1)), none⟩,
        ⟨(some 1), .mv (.tmp 17), none⟩] [0, 1, 5])))
   (.reg [
       ⟨(some 10), .mv (.tmp 5), none⟩,
       ⟨(some 11), .bin .add (.tmp 10) (.const (.int .i64 1)), none⟩,
       ⟨(some 5), .mv (.tmp 11), none⟩] [0, 1, 5]))))))
 (.seq (.reg [
     ⟨(some 18), .mv (.tmp 1), none⟩,
     ⟨(some 4), .mv (.tmp 18), none⟩] [4])
 (.ret)))
theorem s_laws_markInt64S : stripF Try.prog 45 [[0, 1], [0, 1, 5], [0, 1, 5], [0, 1, 5, 9], [0, 1, 5], [0, 1, 5], [0, 1, 5], [4]] = some (c_laws_markInt64S, [.tmp 4], 19) := by kernel_rfl

/-- loop.example/g00920/laws.heldInt64S -/
abbrev f_laws_heldInt64S : Nat := 46
def c_laws_heldInt64S : SC :=
 .seq (.reg [
     ⟨(some 4), .mv (.const (.int .i64 0)), none⟩] [0, 1])
 (.seq (.seq (.reg [
     ⟨(some 5), .mv (.const (.int .i64 0)), none⟩] [0, 1, 5])
 (.block 0 (.loop [0, 1, 5]
   (.seq (.seq (.reg [
       ⟨(some 6), .mv (.tmp 5), none⟩,
       ⟨(some 7), .mv (.tmp 0), none⟩,
       ⟨(some 8), .len (.tmp 7), none⟩,
       ⟨(some 9), .bin .lss (.tmp 6) (.tmp 8), none⟩] [0, 1, 5, 9])
   (.cond (.tmp 9)
    (.skip)
    (.exit 0)))
   (.seq (.block 1 (.seq (.seq (.reg [
        ⟨(some 12), .mv (.tmp 0), none⟩,
        ⟨(some 13), .mv (.tmp 5), none⟩,
        ⟨(some 14), .iaddr 1 (.tmp 12) (.tmp 13), none⟩,
        ⟨(some 15), .load 1 false (.tmp 14), none⟩,
        ⟨(some 16), .mv (.tmp 1), none⟩,
        ⟨(some 17), .bin .neq (.tmp 15) (.tmp 16), none⟩] [0, 1, 5, 17])
    (.cond (.tmp 17)
     (.seq (.reg [
         ⟨(some 4), .mv (.const (.int .i64 (-1))), none⟩] [4])
     (.ret))
     (.skip)))
    (.reg [
        ⟨(some 18), .mv (.tmp 1), none⟩,
        ⟨(some 19), .bin .add (.tmp 18) (.const (.int .i64 1)), none⟩,
        ⟨(some 1), .mv (.tmp 19), none⟩] [0, 1, 5])))
   (.reg [
       ⟨(some 10), .mv (.tmp 5), none⟩,
       ⟨(some 11), .bin .add (.tmp 10) (.const (.int .i64 1)), none⟩,
       ⟨(some 5), .mv (.tmp 11), none⟩] [0, 1, 5]))))))
 (.seq (.reg [
     ⟨(some 20), .mv (.tmp 1), none⟩,
     ⟨(some 4), .mv (.tmp 20), none⟩] [4])
 (.ret)))
theorem s_laws_heldInt64S : stripF Try.prog 46 [[0, 1], [0, 1, 5], [0, 1, 5], [0, 1, 5, 9], [0, 1, 5, 17], [4], [0, 1, 5], [0, 1, 5], [4]] = some (c_laws_heldInt64S, [.tmp 4], 21) := by kernel_rfl

/-- loop.example/g00920/spec.l00In -/
abbrev f_spec_l00In : Nat := 57
def c_spec_l00In : SC :=
 .seq (.reg [
     ⟨(some 6), .mv (.const (.bool false)), none⟩] [0, 1, 2])
 (.seq (.reg [
     ⟨(some 7), .mv (.tmp 0), none⟩,
     ⟨(some 8), .mv (.tmp 1), none⟩,
     ⟨(some 9), .bin .geq (.tmp 7) (.tmp 8), none⟩,
     ⟨(some 10), .mv (.tmp 9), none⟩,
     ⟨(some 11), .mv (.tmp 0), (some (10, true))⟩,
     ⟨(some 12), .mv (.tmp 2), (some (10, true))⟩,
     ⟨(some 13), .bin .leq (.tmp 11) (.tmp 12), (some (10, true))⟩,
     ⟨(some 14), .pick (.tmp 10) (.tmp 13) (.const (.bool false)), none⟩,
     ⟨(some 6), .mv (.tmp 14), none⟩] [6])
 (.ret))
theorem s_spec_l00In : stripF Try.prog 57 [[0, 1, 2], [6]] = some (c_spec_l00In, [.tmp 6], 15) := by kernel_rfl

/-- loop.example/g00920/spec.l24Squares -/
abbrev f_spec_l24Squares : Nat := 58
def c_spec_l24Squares : SC :=
 .seq (.reg [
     ⟨(some 2), .alloc 24 [(.int .i64 0), (.slice none 0 0)], none⟩] [0, 2])
 (.seq (.reg [
     ⟨(some 7), .mv (.tmp 0), none⟩,
     ⟨(some 8), .bin .mul (.const (.int .i64 3)) (.tmp 7), none⟩,
     ⟨(some 9), .mv (.tmp 0), none⟩,
     ⟨(some 10), .bin .mul (.tmp 8) (.tmp 9), none⟩,
     ⟨(some 11), .build [(.int .i64 0), (.slice none 0 0)] [(0, 1, (.tmp 10))], none⟩,
     ⟨(some 3), .alloc 24 [(.int .i64 0), (.slice none 0 0)], none⟩,
     ⟨none, .store 2 (.tmp 3) (.tmp 11), none⟩] [0, 2, 3])
 (.seq (.seq (.reg [
     ⟨(some 4), .mv (.const (.int .i64 0)), none⟩] [0, 2, 3, 4])
 (.block 0 (.loop [0, 2, 3, 4]
   (.seq (.seq (.reg [
       ⟨(some 12), .mv (.tmp 4), none⟩,
       ⟨(some 13), .mv (.tmp 0), none⟩,
       ⟨(some 14), .bin .lss (.tmp 12) (.tmp 13), none⟩] [0, 2, 3, 4, 14])
   (.cond (.tmp 14)
    (.skip)
    (.exit 0)))
   (.seq (.block 1 (.seq (.reg [
        ⟨(some 5), .mv (.const (.int .i64 0)), none⟩] [0, 2, 3, 4, 5])
    (.block 2 (.loop [0, 2, 3, 4, 5]
      (.seq (.seq (.reg [
          ⟨(some 17), .mv (.tmp 5), none⟩,
          ⟨(some 18), .mv (.tmp 0), none⟩,
          ⟨(some 19), .bin .lss (.tmp 17) (.tmp 18), none⟩] [0, 2, 3, 4, 5, 19])
      (.cond (.tmp 19)
       (.skip)
       (.exit 2)))
      (.seq (.block 3 (.seq (.reg [
           ⟨(some 6), .mv (.const (.int .i64 0)), none⟩] [0, 2, 3, 4, 5, 6])
       (.block 4 (.loop [0, 2, 3, 4, 5, 6]
         (.seq (.seq (.reg [
             ⟨(some 22), .mv (.tmp 6), none⟩,
             ⟨(some 23), .mv (.tmp 0), none⟩,
             ⟨(some 24), .bin .lss (.tmp 22) (.tmp 23), none⟩] [0, 2, 3, 4, 5, 6, 24])
         (.cond (.tmp 24)
          (.skip)
          (.exit 4)))
         (.seq (.block 5 (.reg [
              ⟨(some 27), .faddr 1 (.tmp 3), none⟩,
              ⟨(some 28), .load 1 false (.tmp 27), none⟩,
              ⟨(some 29), .mv (.tmp 4), none⟩,
              ⟨(some 30), .mv (.tmp 0), none⟩,
              ⟨(some 31), .bin .mul (.tmp 29) (.tmp 30), none⟩,
              ⟨(some 32), .mv (.tmp 5), none⟩,
              ⟨(some 33), .bin .add (.tmp 31) (.tmp 32), none⟩,
              ⟨(some 34), .mv (.tmp 0), none⟩,
              ⟨(some 35), .mv (.tmp 0), none⟩,
              ⟨(some 36), .bin .mul (.tmp 34) (.tmp 35), none⟩,
              ⟨(some 37), .mv (.tmp 4), none⟩,
              ⟨(some 38), .mv (.tmp 0), none⟩,
              ⟨(some 39), .bin .mul (.tmp 37) (.tmp 38), none⟩,
              ⟨(some 40), .bin .add (.tmp 36) (.tmp 39), none⟩,
              ⟨(some 41), .mv (.tmp 6), none⟩,
              ⟨(some 42), .bin .add (.tmp 40) (.tmp 41), none⟩,
              ⟨(some 43), .mv (.tmp 0), none⟩,
              ⟨(some 44), .bin .mul (.const (.int .i64 2)) (.tmp 43), none⟩,
              ⟨(some 45), .mv (.tmp 0), none⟩,
              ⟨(some 46), .bin .mul (.tmp 44) (.tmp 45), none⟩,
              ⟨(some 47), .mv (.tmp 5), none⟩,
              ⟨(some 48), .mv (.tmp 0), none⟩,
              ⟨(some 49), .bin .mul (.tmp 47) (.tmp 48), none⟩,
              ⟨(some 50), .bin .add (.tmp 46) (.tmp 49), none⟩,
              ⟨(some 51), .mv (.tmp 6), none⟩,
              ⟨(some 52), .bin .add (.tmp 50) (.tmp 51), none⟩,
              ⟨(some 53), .bslice 2 1 3 [(.int .i64 0), (.int .i64 0), (.int .i64 0)] [(0, (.tmp 33)), (1, (.tmp 42)), (2, (.tmp 52))], none⟩,
              ⟨(some 54), .bslice 42 1 1 [(.slice none 0 0)] [(0, (.tmp 53))], none⟩,
              ⟨(some 55), .app 42 1 24 (.tmp 28) (.tmp 54), none⟩,
              ⟨(some 56), .faddr 1 (.tmp 3), none⟩,
              ⟨none, .store 1 (.tmp 56) (.tmp 55), none⟩] [0, 2, 3, 4, 5, 6]))
         (.reg [
             ⟨(some 25), .mv (.tmp 6), none⟩,
             ⟨(some 26), .bin .add (.tmp 25) (.const (.int .i64 1)), none⟩,
             ⟨(some 6), .mv (.tmp 26), none⟩] [0, 2, 3, 4, 5, 6])))))))
      (.reg [
          ⟨(some 20), .mv (.tmp 5), none⟩,
          ⟨(some 21), .bin .add (.tmp 20) (.const (.int .i64 1)), none⟩,
          ⟨(some 5), .mv (.tmp 21), none⟩] [0, 2, 3, 4, 5])))))))
   (.reg [
       ⟨(some 15), .mv (.tmp 4), none⟩,
       ⟨(some 16), .bin .add (.tmp 15) (.const (.int .i64 1)), none⟩,
       ⟨(some 4), .mv (.tmp 16), none⟩] [0, 2, 3, 4]))))))
 (.seq (.reg [
     ⟨(some 57), .load 2 true (.tmp 3), none⟩,
     ⟨none, .store 2 (.tmp 2) (.tmp 57), none⟩] [2])
 (.ret))))
theorem s_spec_l24Squares : stripF Try.prog 58 [[0, 2], [0, 2, 3], [0, 2, 3, 4], [0, 2, 3, 4], [0, 2, 3, 4, 14], [0, 2, 3, 4, 5], [0, 2, 3, 4, 5], [0, 2, 3, 4, 5, 19], [0, 2, 3, 4, 5, 6], [0, 2, 3, 4, 5, 6], [0, 2, 3, 4, 5, 6, 24], [0, 2, 3, 4, 5, 6], [0, 2, 3, 4, 5, 6], [0, 2, 3, 4, 5], [0, 2, 3, 4], [2]] = some (c_spec_l24Squares, [.cell 2 2], 58) := by kernel_rfl

/-- loop.example/g00920/impl.within -/
abbrev f_impl_within : Nat := 59
def c_impl_within : SC :=
 .seq (.reg [
     ⟨(some 6), .mv (.const (.bool false)), none⟩] [0, 1, 2])
 (.seq (.reg [
     ⟨(some 7), .mv (.tmp 0), none⟩,
     ⟨(some 8), .mv (.tmp 1), none⟩,
     ⟨(some 9), .bin .geq (.tmp 7) (.tmp 8), none⟩,
     ⟨(some 10), .mv (.tmp 9), none⟩,
     ⟨(some 11), .mv (.tmp 0), (some (10, true))⟩,
     ⟨(some 12), .mv (.tmp 2), (some (10, true))⟩,
     ⟨(some 13), .bin .leq (.tmp 11) (.tmp 12), (some (10, true))⟩,
     ⟨(some 14), .pick (.tmp 10) (.tmp 13) (.const (.bool false)), none⟩,
     ⟨(some 6), .mv (.tmp 14), none⟩] [6])
 (.ret))
theorem s_impl_within : stripF Try.prog 59 [[0, 1, 2], [6]] = some (c_impl_within, [.tmp 6], 15) := by kernel_rfl

/-- loop.example/g00920/laws.markInt64SS -/
abbrev f_laws_markInt64SS : Nat := 60
def c_laws_markInt64SS : SC :=
 .seq (.reg [
     ⟨(some 4), .mv (.const (.int .i64 0)), none⟩] [0, 1])
 (.seq (.seq (.reg [
     ⟨(some 5), .mv (.const (.int .i64 0)), none⟩] [0, 1, 5])
 (.block 0 (.loop [0, 1, 5]
   (.seq (.seq (.reg [
       ⟨(some 6), .mv (.tmp 5), none⟩,
       ⟨(some 7), .mv (.tmp 0), none⟩,
       ⟨(some 8), .len (.tmp 7), none⟩,
       ⟨(some 9), .bin .lss (.tmp 6) (.tmp 8), none⟩] [0, 1, 5, 9])
   (.cond (.tmp 9)
    (.skip)
    (.exit 0)))
   (.seq (.block 1 (.reg [
        ⟨(some 12), .mv (.tmp 0), none⟩,
        ⟨(some 13), .mv (.tmp 5), none⟩,
        ⟨(some 14), .iaddr 1 (.tmp 12) (.tmp 13), none⟩,
        ⟨(some 15), .load 1 false (.tmp 14), none⟩,
        ⟨(some 16), .mv (.tmp 1), none⟩,
        ⟨(some 17), .call 45 [(.tmp 15), (.tmp 16)], none⟩,
        ⟨(some 1), .mv (.tmp 17), none⟩] [0, 1, 5]))
   (.reg [
       ⟨(some 10), .mv (.tmp 5), none⟩,
       ⟨(some 11), .bin .add (.tmp 10) (.const (.int .i64 1)), none⟩,
       ⟨(some 5), .mv (.tmp 11), none⟩] [0, 1, 5]))))))
 (.seq (.reg [
     ⟨(some 18), .mv (.tmp 1), none⟩,
     ⟨(some 4), .mv (.tmp 18), none⟩] [4])
 (.ret)))
theorem s_laws_markInt64SS : stripF Try.prog 60 [[0, 1], [0, 1, 5], [0, 1, 5], [0, 1, 5, 9], [0, 1, 5], [0, 1, 5], [4]] = some (c_laws_markInt64SS, [.tmp 4], 19) := by kernel_rfl

/-- loop.example/g00920/laws.heldInt64SS -/
abbrev f_laws_heldInt64SS : Nat := 61
def c_laws_heldInt64SS : SC :=
 .seq (.reg [
     ⟨(some 4), .mv (.const (.int .i64 0)), none⟩] [0, 1])
 (.seq (.seq (.reg [
     ⟨(some 5), .mv (.const (.int .i64 0)), none⟩] [0, 1, 5])
 (.block 0 (.loop [0, 1, 5]
   (.seq (.seq (.reg [
       ⟨(some 6), .mv (.tmp 5), none⟩,
       ⟨(some 7), .mv (.tmp 0), none⟩,
       ⟨(some 8), .len (.tmp 7), none⟩,
       ⟨(some 9), .bin .lss (.tmp 6) (.tmp 8), none⟩] [0, 1, 5, 9])
   (.cond (.tmp 9)
    (.skip)
    (.exit 0)))
   (.seq (.block 1 (.seq (.reg [
        ⟨(some 12), .mv (.tmp 0), none⟩,
        ⟨(some 13), .mv (.tmp 5), none⟩,
        ⟨(some 14), .iaddr 1 (.tmp 12) (.tmp 13), none⟩,
        ⟨(some 15), .load 1 false (.tmp 14), none⟩,
        ⟨(some 16), .mv (.tmp 1), none⟩,
        ⟨(some 17), .call 46 [(.tmp 15), (.tmp 16)], none⟩,
        ⟨(some 1), .mv (.tmp 17), none⟩] [0, 1, 5])
    (.seq (.reg [
        ⟨(some 18), .mv (.tmp 1), none⟩,
        ⟨(some 19), .bin .lss (.tmp 18) (.const (.int .i64 0)), none⟩] [0, 1, 5, 19])
    (.cond (.tmp 19)
     (.seq (.reg [
         ⟨(some 4), .mv (.const (.int .i64 (-1))), none⟩] [4])
     (.ret))
     (.skip)))))
   (.reg [
       ⟨(some 10), .mv (.tmp 5), none⟩,
       ⟨(some 11), .bin .add (.tmp 10) (.const (.int .i64 1)), none⟩,
       ⟨(some 5), .mv (.tmp 11), none⟩] [0, 1, 5]))))))
 (.seq (.reg [
     ⟨(some 20), .mv (.tmp 1), none⟩,
     ⟨(some 4), .mv (.tmp 20), none⟩] [4])
 (.ret)))
theorem s_laws_heldInt64SS : stripF Try.prog 61 [[0, 1], [0, 1, 5], [0, 1, 5], [0, 1, 5, 9], [0, 1, 5], [0, 1, 5, 19], [4], [0, 1, 5], [4]] = some (c_laws_heldInt64SS, [.tmp 4], 21) := by kernel_rfl

end Go.Proofs.Ytmgbglekgigkmaa
