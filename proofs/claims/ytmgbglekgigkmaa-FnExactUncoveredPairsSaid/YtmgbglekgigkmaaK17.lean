/- Pairs that are not covered: the program, the reference. -/
import Derived.Test.YtmgbglekgigkmaaProg
import Derived.KernelRfl
import Derived.Test.YtmgbglekgigkmaaK16
import Derived.Test.YtmgbglekgigkmaaK4
set_option linter.unusedSimpArgs false
set_option linter.unusedVariables false
set_option maxHeartbeats 4000000
namespace Go.Proofs.Ytmgbglekgigkmaa
open Go.Av

/-! The abstract code of functions, printed by program and tied to the program by the kernel. -/
/-- loop.example/g00920/laws.FnExactUncoveredPairs -/
abbrev f_laws_FnExactUncoveredPairs : Nat := 14
def c_laws_FnExactUncoveredPairs : SC :=
 .seq (.reg [
     ⟨(some 1), .box 66 (.tmp 0), none⟩,
     ⟨(some 2), .mv (.const (.bool false)), none⟩] [1])
 (.seq (.reg [
     ⟨(some 3), .mv (.const (.int .i64 1048576)), none⟩] [1, 3])
 (.seq (.reg [
     ⟨(some 7), .load 3 true (.tmp 1), none⟩,
     ⟨(some 8), .mv (.tmp 3), none⟩,
     ⟨(some 9), .call 53 [(.tmp 7), (.tmp 8)], none⟩,
     ⟨(some 3), .mv (.tmp 9), none⟩] [1, 3])
 (.seq (.seq (.reg [
     ⟨(some 10), .mv (.tmp 3), none⟩,
     ⟨(some 11), .bin .lss (.tmp 10) (.const (.int .i64 0)), none⟩] [1, 11])
 (.cond (.tmp 11)
  (.seq (.reg [
      ⟨(some 2), .mv (.const (.bool true)), none⟩] [2])
  (.ret))
  (.skip)))
 (.seq (.reg [
     ⟨(some 12), .load 3 true (.tmp 1), none⟩,
     ⟨(some 13), .call 55 [(.tmp 12)], none⟩,
     ⟨(some 14), .call 54 [(.tmp 13)], none⟩,
     ⟨(some 4), .mv (.tmp 14), none⟩] [1, 4])
 (.seq (.reg [
     ⟨(some 15), .load 3 true (.tmp 1), none⟩,
     ⟨(some 16), .call 55 [(.tmp 15)], none⟩,
     ⟨(some 5), .alloc 52 [(.int .i64 0), (.int .i64 0), (.slice none 0 0)], none⟩,
     ⟨none, .store 3 (.tmp 5) (.tmp 16), none⟩] [1, 4, 5])
 (.seq (.reg [
     ⟨(some 17), .load 3 true (.tmp 5), none⟩,
     ⟨(some 18), .call 41 [(.tmp 17)], none⟩,
     ⟨(some 6), .mv (.tmp 18), none⟩] [1, 4, 5, 6])
 (.seq (.seq (.reg [
     ⟨(some 19), .mv (.tmp 6), none⟩,
     ⟨(some 20), .mv (.tmp 4), none⟩,
     ⟨(some 21), .bin .neq (.tmp 19) (.tmp 20), none⟩] [1, 5, 21])
 (.cond (.tmp 21)
  (.seq (.reg [
      ⟨(some 2), .mv (.const (.bool false)), none⟩] [2])
  (.ret))
  (.skip)))
 (.seq (.seq (.reg [
     ⟨(some 22), .load 3 true (.tmp 5), none⟩,
     ⟨(some 23), .load 3 true (.tmp 1), none⟩,
     ⟨(some 24), .qcall 55 [(.tmp 23)], none⟩,
     ⟨(some 25), .qcall 56 [(.tmp 22), (.tmp 24)], none⟩,
     ⟨(some 26), .un .not (.tmp 25), none⟩] [26])
 (.cond (.tmp 26)
  (.seq (.reg [
      ⟨(some 2), .mv (.const (.bool false)), none⟩] [2])
  (.ret))
  (.skip)))
 (.seq (.reg [
     ⟨(some 2), .mv (.const (.bool true)), none⟩] [2])
 (.ret))))))))))
theorem s_laws_FnExactUncoveredPairs : stripF Try.prog 14 [[1], [1, 3], [1, 3], [1, 11], [2], [1, 4], [1, 4, 5], [1, 4, 5, 6], [1, 5, 21], [2], [26], [2], [2]] = some (c_laws_FnExactUncoveredPairs, [.tmp 2], 27) := by kernel_rfl

/-- loop.example/g00920/impl.UncoveredPairs -/
abbrev f_impl_UncoveredPairs : Nat := 41
def c_impl_UncoveredPairs : SC :=
 .seq (.reg [
     ⟨(some 1), .box 52 (.tmp 0), none⟩,
     ⟨(some 2), .mv (.const (.int .i64 0)), none⟩] [1])
 (.seq (.seq (.reg [
     ⟨(some 6), .load 3 true (.tmp 1), none⟩,
     ⟨(some 7), .call 40 [(.tmp 6)], none⟩,
     ⟨(some 8), .un .not (.tmp 7), none⟩] [1, 8])
 (.cond (.tmp 8)
  (.seq (.reg [
      ⟨(some 2), .mv (.const (.int .i64 0)), none⟩] [2])
  (.ret))
  (.skip)))
 (.seq (.reg [
     ⟨(some 9), .faddr 0 (.tmp 1), none⟩,
     ⟨(some 10), .load 1 false (.tmp 9), none⟩,
     ⟨(some 11), .faddr 1 (.tmp 1), none⟩,
     ⟨(some 12), .load 1 false (.tmp 11), none⟩,
     ⟨(some 13), .call 90 [(.tmp 10), (.tmp 12)], none⟩,
     ⟨(some 3), .mv (.tmp 13), none⟩] [1, 3])
 (.seq (.seq (.reg [
     ⟨(some 14), .faddr 2 (.tmp 1), none⟩,
     ⟨(some 15), .load 1 false (.tmp 14), none⟩,
     ⟨(some 16), .len (.tmp 15), none⟩,
     ⟨(some 17), .mv (.const (.int .i64 0)), none⟩] [3, 15, 16, 17])
 (.block 0 (.loop [3, 15, 16, 17]
   (.seq (.reg [
       ⟨(some 18), .bin .lss (.tmp 17) (.tmp 16), none⟩] [3, 15, 16, 17, 18])
   (.seq (.cond (.tmp 18)
    (.skip)
    (.exit 0))
   (.seq (.block 1 (.seq (.reg [
        ⟨(some 19), .iaddr 1 (.tmp 15) (.tmp 17), none⟩,
        ⟨(some 20), .load 1 false (.tmp 19), none⟩,
        ⟨(some 5), .mv (.tmp 20), none⟩] [3, 5, 15, 16, 17])
    (.reg [
        ⟨(some 21), .mv (.tmp 3), none⟩,
        ⟨(some 22), .mv (.tmp 5), none⟩,
        ⟨(some 23), .call 93 [(.tmp 21), (.tmp 22)], none⟩] [3, 15, 16, 17])))
   (.reg [
       ⟨(some 24), .bin .add (.tmp 17) (.const (.int .i64 1)), none⟩,
       ⟨(some 17), .mv (.tmp 24), none⟩] [3, 15, 16, 17])))))))
 (.seq (.reg [
     ⟨(some 25), .mv (.tmp 3), none⟩,
     ⟨(some 26), .call 91 [(.tmp 25)], none⟩,
     ⟨(some 27), .call 96 [(.tmp 26)], none⟩,
     ⟨(some 2), .mv (.tmp 27), none⟩] [2])
 (.ret)))))
theorem s_impl_UncoveredPairs : stripF Try.prog 41 [[1], [1, 8], [2], [1, 3], [3, 15, 16, 17], [3, 15, 16, 17], [3, 15, 16, 17, 18], [3, 5, 15, 16, 17], [3, 15, 16, 17], [3, 15, 16, 17], [2]] = some (c_impl_UncoveredPairs, [.tmp 2], 28) := by kernel_rfl

/-- loop.example/g00920/laws.szArray -/
abbrev f_laws_szArray : Nat := 53
def c_laws_szArray : SC :=
 .seq (.reg [
     ⟨(some 2), .box 66 (.tmp 0), none⟩,
     ⟨(some 4), .mv (.const (.int .i64 0)), none⟩] [1, 2])
 (.seq (.reg [
     ⟨(some 5), .faddr 2 (.tmp 2), none⟩,
     ⟨(some 6), .load 1 false (.tmp 5), none⟩,
     ⟨(some 7), .mv (.tmp 1), none⟩,
     ⟨(some 8), .call 28 [(.tmp 6), (.tmp 7)], none⟩,
     ⟨(some 1), .mv (.tmp 8), none⟩] [1])
 (.seq (.seq (.reg [
     ⟨(some 9), .mv (.tmp 1), none⟩,
     ⟨(some 10), .bin .lss (.tmp 9) (.const (.int .i64 0)), none⟩] [1, 10])
 (.cond (.tmp 10)
  (.seq (.reg [
      ⟨(some 4), .mv (.const (.int .i64 (-1))), none⟩] [4])
  (.ret))
  (.skip)))
 (.seq (.reg [
     ⟨(some 11), .mv (.tmp 1), none⟩,
     ⟨(some 4), .mv (.tmp 11), none⟩] [4])
 (.ret))))
theorem s_laws_szArray : stripF Try.prog 53 [[1, 2], [1], [1, 10], [4], [4]] = some (c_laws_szArray, [.tmp 4], 12) := by kernel_rfl

/-- loop.example/g00920/spec.UncoveredPairs -/
abbrev f_spec_UncoveredPairs : Nat := 54
def c_spec_UncoveredPairs : SC :=
 .seq (.reg [
     ⟨(some 1), .box 52 (.tmp 0), none⟩,
     ⟨(some 2), .mv (.const (.int .i64 0)), none⟩] [1])
 (.seq (.seq (.reg [
     ⟨(some 7), .call 109 [(.tmp 1)], none⟩,
     ⟨(some 8), .un .not (.tmp 7), none⟩] [1, 8])
 (.cond (.tmp 8)
  (.seq (.reg [
      ⟨(some 2), .mv (.const (.int .i64 0)), none⟩] [2])
  (.ret))
  (.skip)))
 (.seq (.reg [
     ⟨(some 3), .mv (.const (.int .i64 0)), none⟩] [1, 3])
 (.seq (.seq (.reg [
     ⟨(some 4), .mv (.const (.int .i64 0)), none⟩] [1, 3, 4])
 (.block 0 (.loop [1, 3, 4]
   (.seq (.seq (.reg [
       ⟨(some 9), .mv (.tmp 4), none⟩,
       ⟨(some 10), .faddr 1 (.tmp 1), none⟩,
       ⟨(some 11), .load 1 false (.tmp 10), none⟩,
       ⟨(some 12), .bin .lss (.tmp 9) (.tmp 11), none⟩] [1, 3, 4, 12])
   (.cond (.tmp 12)
    (.skip)
    (.exit 0)))
   (.seq (.block 1 (.seq (.reg [
        ⟨(some 15), .mv (.tmp 4), none⟩,
        ⟨(some 16), .bin .add (.tmp 15) (.const (.int .i64 1)), none⟩,
        ⟨(some 5), .mv (.tmp 16), none⟩] [1, 3, 4, 5])
    (.block 2 (.loop [1, 3, 4, 5]
      (.seq (.seq (.reg [
          ⟨(some 17), .mv (.tmp 5), none⟩,
          ⟨(some 18), .faddr 1 (.tmp 1), none⟩,
          ⟨(some 19), .load 1 false (.tmp 18), none⟩,
          ⟨(some 20), .bin .lss (.tmp 17) (.tmp 19), none⟩] [1, 3, 4, 5, 20])
      (.cond (.tmp 20)
       (.skip)
       (.exit 2)))
      (.seq (.block 3 (.seq (.reg [
           ⟨(some 6), .mv (.const (.int .i64 0)), none⟩] [1, 3, 4, 5, 6])
       (.block 4 (.loop [1, 3, 4, 5, 6]
         (.seq (.seq (.reg [
             ⟨(some 23), .mv (.tmp 6), none⟩,
             ⟨(some 24), .faddr 0 (.tmp 1), none⟩,
             ⟨(some 25), .load 1 false (.tmp 24), none⟩,
             ⟨(some 26), .faddr 0 (.tmp 1), none⟩,
             ⟨(some 27), .load 1 false (.tmp 26), none⟩,
             ⟨(some 28), .bin .mul (.tmp 25) (.tmp 27), none⟩,
             ⟨(some 29), .bin .lss (.tmp 23) (.tmp 28), none⟩] [1, 3, 4, 5, 6, 29])
         (.cond (.tmp 29)
          (.skip)
          (.exit 4)))
         (.seq (.block 5 (.seq (.reg [
              ⟨(some 32), .faddr 2 (.tmp 1), none⟩,
              ⟨(some 33), .load 1 false (.tmp 32), none⟩,
              ⟨(some 34), .mv (.tmp 4), none⟩,
              ⟨(some 35), .mv (.tmp 5), none⟩,
              ⟨(some 36), .mv (.tmp 6), none⟩,
              ⟨(some 37), .faddr 0 (.tmp 1), none⟩,
              ⟨(some 38), .load 1 false (.tmp 37), none⟩,
              ⟨(some 39), .bin .quo (.tmp 36) (.tmp 38), none⟩,
              ⟨(some 40), .mv (.tmp 6), none⟩,
              ⟨(some 41), .faddr 0 (.tmp 1), none⟩,
              ⟨(some 42), .load 1 false (.tmp 41), none⟩,
              ⟨(some 43), .bin .rem (.tmp 40) (.tmp 42), none⟩,
              ⟨(some 44), .qcall 110 [(.tmp 33), (.tmp 34), (.tmp 35), (.tmp 39), (.tmp 43)], none⟩,
              ⟨(some 45), .un .not (.tmp 44), none⟩] [1, 3, 4, 5, 6, 45])
          (.cond (.tmp 45)
           (.reg [
               ⟨(some 46), .mv (.tmp 3), none⟩,
               ⟨(some 47), .bin .add (.tmp 46) (.const (.int .i64 1)), none⟩,
               ⟨(some 3), .mv (.tmp 47), none⟩] [1, 3, 4, 5, 6])
           (.skip))))
         (.reg [
             ⟨(some 30), .mv (.tmp 6), none⟩,
             ⟨(some 31), .bin .add (.tmp 30) (.const (.int .i64 1)), none⟩,
             ⟨(some 6), .mv (.tmp 31), none⟩] [1, 3, 4, 5, 6])))))))
      (.reg [
          ⟨(some 21), .mv (.tmp 5), none⟩,
          ⟨(some 22), .bin .add (.tmp 21) (.const (.int .i64 1)), none⟩,
          ⟨(some 5), .mv (.tmp 22), none⟩] [1, 3, 4, 5])))))))
   (.reg [
       ⟨(some 13), .mv (.tmp 4), none⟩,
       ⟨(some 14), .bin .add (.tmp 13) (.const (.int .i64 1)), none⟩,
       ⟨(some 4), .mv (.tmp 14), none⟩] [1, 3, 4]))))))
 (.seq (.reg [
     ⟨(some 48), .mv (.tmp 3), none⟩,
     ⟨(some 2), .mv (.tmp 48), none⟩] [2])
 (.ret)))))
theorem s_spec_UncoveredPairs : stripF Try.prog 54 [[1], [1, 8], [2], [1, 3], [1, 3, 4], [1, 3, 4], [1, 3, 4, 12], [1, 3, 4, 5], [1, 3, 4, 5], [1, 3, 4, 5, 20], [1, 3, 4, 5, 6], [1, 3, 4, 5, 6], [1, 3, 4, 5, 6, 29], [1, 3, 4, 5, 6, 45], [1, 3, 4, 5, 6], [1, 3, 4, 5, 6], [1, 3, 4, 5], [1, 3, 4], [2]] = some (c_spec_UncoveredPairs, [.tmp 2], 49) := by kernel_rfl

/-- loop.example/g00920/laws.toArray -/
abbrev f_laws_toArray : Nat := 55
def c_laws_toArray : SC :=
 .seq (.reg [
     ⟨(some 1), .box 66 (.tmp 0), none⟩,
     ⟨(some 2), .alloc 52 [(.int .i64 0), (.int .i64 0), (.slice none 0 0)], none⟩] [1, 2])
 (.seq (.reg [
     ⟨(some 3), .alloc 52 [(.int .i64 0), (.int .i64 0), (.slice none 0 0)], none⟩] [1, 2, 3])
 (.seq (.reg [
     ⟨(some 4), .faddr 0 (.tmp 1), none⟩,
     ⟨(some 5), .load 1 false (.tmp 4), none⟩,
     ⟨(some 6), .faddr 0 (.tmp 3), none⟩,
     ⟨none, .store 1 (.tmp 6) (.tmp 5), none⟩] [1, 2, 3])
 (.seq (.reg [
     ⟨(some 7), .faddr 1 (.tmp 1), none⟩,
     ⟨(some 8), .load 1 false (.tmp 7), none⟩,
     ⟨(some 9), .faddr 1 (.tmp 3), none⟩,
     ⟨none, .store 1 (.tmp 9) (.tmp 8), none⟩] [1, 2, 3])
 (.seq (.reg [
     ⟨(some 10), .faddr 2 (.tmp 1), none⟩,
     ⟨(some 11), .load 1 false (.tmp 10), none⟩,
     ⟨(some 12), .call 30 [(.tmp 11)], none⟩,
     ⟨(some 13), .faddr 2 (.tmp 3), none⟩,
     ⟨none, .store 1 (.tmp 13) (.tmp 12), none⟩] [2, 3])
 (.seq (.reg [
     ⟨(some 14), .load 3 true (.tmp 3), none⟩,
     ⟨none, .store 3 (.tmp 2) (.tmp 14), none⟩] [2])
 (.ret))))))
theorem s_laws_toArray : stripF Try.prog 55 [[1, 2], [1, 2, 3], [1, 2, 3], [1, 2, 3], [2, 3], [2]] = some (c_laws_toArray, [.cell 2 3], 15) := by kernel_rfl

/-- loop.example/g00920/laws.eqArray -/
abbrev f_laws_eqArray : Nat := 56
def c_laws_eqArray : SC :=
 .seq (.reg [
     ⟨(some 2), .box 52 (.tmp 0), none⟩,
     ⟨(some 3), .box 52 (.tmp 1), none⟩,
     ⟨(some 4), .mv (.const (.bool false)), none⟩] [2, 3])
 (.seq (.seq (.reg [
     ⟨(some 5), .faddr 0 (.tmp 2), none⟩,
     ⟨(some 6), .load 1 false (.tmp 5), none⟩,
     ⟨(some 7), .faddr 0 (.tmp 3), none⟩,
     ⟨(some 8), .load 1 false (.tmp 7), none⟩,
     ⟨(some 9), .bin .neq (.tmp 6) (.tmp 8), none⟩] [2, 3, 9])
 (.cond (.tmp 9)
  (.seq (.reg [
      ⟨(some 4), .mv (.const (.bool false)), none⟩] [4])
  (.ret))
  (.skip)))
 (.seq (.seq (.reg [
     ⟨(some 10), .faddr 1 (.tmp 2), none⟩,
     ⟨(some 11), .load 1 false (.tmp 10), none⟩,
     ⟨(some 12), .faddr 1 (.tmp 3), none⟩,
     ⟨(some 13), .load 1 false (.tmp 12), none⟩,
     ⟨(some 14), .bin .neq (.tmp 11) (.tmp 13), none⟩] [2, 3, 14])
 (.cond (.tmp 14)
  (.seq (.reg [
      ⟨(some 4), .mv (.const (.bool false)), none⟩] [4])
  (.ret))
  (.skip)))
 (.seq (.seq (.reg [
     ⟨(some 15), .faddr 2 (.tmp 2), none⟩,
     ⟨(some 16), .load 1 false (.tmp 15), none⟩,
     ⟨(some 17), .faddr 2 (.tmp 3), none⟩,
     ⟨(some 18), .load 1 false (.tmp 17), none⟩,
     ⟨(some 19), .call 32 [(.tmp 16), (.tmp 18)], none⟩,
     ⟨(some 20), .un .not (.tmp 19), none⟩] [20])
 (.cond (.tmp 20)
  (.seq (.reg [
      ⟨(some 4), .mv (.const (.bool false)), none⟩] [4])
  (.ret))
  (.skip)))
 (.seq (.reg [
     ⟨(some 4), .mv (.const (.bool true)), none⟩] [4])
 (.ret)))))
theorem s_laws_eqArray : stripF Try.prog 56 [[2, 3], [2, 3, 9], [4], [2, 3, 14], [4], [20], [4], [4]] = some (c_laws_eqArray, [.tmp 4], 21) := by kernel_rfl

/-- loop.example/g00920/impl.size[[4]int64] -/
abbrev f_impl_size__4int64 : Nat := 96
def c_impl_size__4int64 : SC :=
 .seq (.reg [
     ⟨(some 2), .mv (.const (.int .i64 0)), none⟩] [0])
 (.seq (.reg [
     ⟨(some 3), .mv (.tmp 0), none⟩,
     ⟨(some 4), .len (.tmp 3), none⟩,
     ⟨(some 2), .mv (.tmp 4), none⟩] [2])
 (.ret))
theorem s_impl_size__4int64 : stripF Try.prog 96 [[0], [2]] = some (c_impl_size__4int64, [.tmp 2], 5) := by kernel_rfl

/-- loop.example/g00920/spec.l16Covered -/
abbrev f_spec_l16Covered : Nat := 110
def c_spec_l16Covered : SC :=
 .seq (.reg [
     ⟨(some 10), .mv (.const (.bool false)), none⟩] [0, 1, 2, 3, 4])
 (.seq (.seq (.reg [
     ⟨(some 11), .mv (.const (.int .i64 0)), none⟩] [0, 1, 2, 3, 4, 11])
 (.block 0 (.loop [0, 1, 2, 3, 4, 11]
   (.seq (.seq (.reg [
       ⟨(some 12), .mv (.tmp 11), none⟩,
       ⟨(some 13), .mv (.tmp 0), none⟩,
       ⟨(some 14), .len (.tmp 13), none⟩,
       ⟨(some 15), .bin .lss (.tmp 12) (.tmp 14), none⟩] [0, 1, 2, 3, 4, 11, 15])
   (.cond (.tmp 15)
    (.skip)
    (.exit 0)))
   (.seq (.block 1 (.seq (.reg [
        ⟨(some 18), .mv (.tmp 0), none⟩,
        ⟨(some 19), .mv (.tmp 11), none⟩,
        ⟨(some 20), .iaddr 1 (.tmp 18) (.tmp 19), none⟩,
        ⟨(some 21), .load 1 false (.tmp 20), none⟩,
        ⟨(some 22), .mv (.tmp 1), none⟩,
        ⟨(some 23), .iaddr 1 (.tmp 21) (.tmp 22), none⟩,
        ⟨(some 24), .load 1 false (.tmp 23), none⟩,
        ⟨(some 25), .mv (.tmp 3), none⟩,
        ⟨(some 26), .bin .eql (.tmp 24) (.tmp 25), none⟩,
        ⟨(some 27), .mv (.tmp 26), none⟩,
        ⟨(some 28), .mv (.tmp 0), (some (27, true))⟩,
        ⟨(some 29), .mv (.tmp 11), (some (27, true))⟩,
        ⟨(some 30), .iaddr 1 (.tmp 28) (.tmp 29), (some (27, true))⟩,
        ⟨(some 31), .load 1 false (.tmp 30), (some (27, true))⟩,
        ⟨(some 32), .mv (.tmp 2), (some (27, true))⟩,
        ⟨(some 33), .iaddr 1 (.tmp 31) (.tmp 32), (some (27, true))⟩,
        ⟨(some 34), .load 1 false (.tmp 33), (some (27, true))⟩,
        ⟨(some 35), .mv (.tmp 4), (some (27, true))⟩,
        ⟨(some 36), .bin .eql (.tmp 34) (.tmp 35), (some (27, true))⟩,
        ⟨(some 37), .pick (.tmp 27) (.tmp 36) (.const (.bool false)), none⟩] [0, 1, 2, 3, 4, 11, 37])
    (.cond (.tmp 37)
     (.seq (.reg [
         ⟨(some 10), .mv (.const (.bool true)), none⟩] [10])
     (.ret))
     (.skip))))
   (.reg [
       ⟨(some 16), .mv (.tmp 11), none⟩,
       ⟨(some 17), .bin .add (.tmp 16) (.const (.int .i64 1)), none⟩,
       ⟨(some 11), .mv (.tmp 17), none⟩] [0, 1, 2, 3, 4, 11]))))))
 (.seq (.reg [
     ⟨(some 10), .mv (.const (.bool false)), none⟩] [10])
 (.ret)))
theorem s_spec_l16Covered : stripF Try.prog 110 [[0, 1, 2, 3, 4], [0, 1, 2, 3, 4, 11], [0, 1, 2, 3, 4, 11], [0, 1, 2, 3, 4, 11, 15], [0, 1, 2, 3, 4, 11, 37], [10], [0, 1, 2, 3, 4, 11], [10]] = some (c_spec_l16Covered, [.tmp 10], 38) := by kernel_rfl


def covR (rows : List (List Int)) (x y v w : Nat) : Bool := rows.any fun row => decide (row.getD x 0 = (v : Int)) && decide (row.getD y 0 = (w : Int))

theorem mul_add_inj {n a b a' b' : Int} (hb : 0 ≤ b ∧ b < n) (hb' : 0 ≤ b' ∧ b' < n) (h : a * n + b = a' * n + b') : a = a' ∧ b = b' := by
  have e1 : (a * n + b) / n = a := by rw [Int.add_comm, Int.add_mul_ediv_right _ _ (by omega), Int.ediv_eq_zero_of_lt hb.1 hb.2]; omega
  have e2 : (a' * n + b') / n = a' := by rw [Int.add_comm, Int.add_mul_ediv_right _ _ (by omega), Int.ediv_eq_zero_of_lt hb'.1 hb'.2]; omega
  have h1 : a = a' := by rw [← e1, ← e2, h]
  subst h1
  exact ⟨rfl, by omega⟩
theorem at_inj {l c : Nat} {x y v w x' y' v' w' : Int} (hy : 0 ≤ y ∧ y < c) (hv : 0 ≤ v ∧ v < l) (hw : 0 ≤ w ∧ w < l) (hy' : 0 ≤ y' ∧ y' < c) (hv' : 0 ≤ v' ∧ v' < l) (hw' : 0 ≤ w' ∧ w' < l) (h : atI l c x y v w = atI l c x' y' v' w') : x = x' ∧ y = y' ∧ v = v' ∧ w = w' := by
  unfold atI at h
  obtain ⟨h1, rfl⟩ := mul_add_inj hw hw' h
  obtain ⟨h2, rfl⟩ := mul_add_inj hv hv' h1
  obtain ⟨h3, rfl⟩ := mul_add_inj hy hy' h2
  exact ⟨h3, rfl, rfl, rfl⟩
theorem mem_codes {l c : Nat} {row : List Int} {z : Int} : z ∈ codes l c row ↔ ∃ x y : Nat, x < y ∧ y < c ∧ z = atI l c x y (row.getD x 0) (row.getD y 0) := by
  unfold codes codesTo codeC
  constructor
  · intro h
    obtain ⟨x, hx, h⟩ := List.mem_flatMap.1 h
    obtain ⟨j, hj, rfl⟩ := List.mem_map.1 h
    rw [List.mem_range] at hx hj
    exact ⟨x, x + 1 + j, by omega, by omega, rfl⟩
  · rintro ⟨x, y, hxy, hy, rfl⟩
    refine List.mem_flatMap.2 ⟨x, List.mem_range.2 (by omega), List.mem_map.2 ⟨y - (x + 1), List.mem_range.2 (by omega), ?_⟩⟩
    rw [show x + 1 + (y - (x + 1)) = y by omega]
theorem rowOk_get {l c : Nat} {row : List Int} (h : rowOk l c row = true) {i : Nat} (hi : i < c) : 0 ≤ row.getD i 0 ∧ row.getD i 0 < l := by
  simp only [rowOk, Bool.and_eq_true, decide_eq_true_eq, List.all_eq_true] at h
  have := h.2 (row.getD i 0) (by rw [List.getD_eq_getElem?_getD, List.getElem?_eq_getElem (by omega)]; exact List.getElem_mem _)
  omega
theorem inP_cov {l c : Nat} {rows : List (List Int)} (hr : rows.all (rowOk l c) = true) {x y v w : Nat} (hxy : x < y) (hy : y < c) (hv : v < l) (hw : w < l) : inP l c (rows.flatMap (codes l c)) x y v w = covR rows x y v w := by
  rw [List.all_eq_true] at hr
  unfold inP covR
  rw [Bool.eq_iff_iff, List.contains_iff_mem, List.mem_flatMap, List.any_eq_true]
  constructor
  · rintro ⟨row, hm, hz⟩
    obtain ⟨x', y', h1, h2, h3⟩ := mem_codes.1 hz
    have gx := rowOk_get (hr row hm) (i := x') (by omega)
    have gy := rowOk_get (hr row hm) (i := y') (by omega)
    obtain ⟨k1, k2, k3, k4⟩ := at_inj (by omega) (by omega) (by omega) (by omega) gx gy h3
    have : x = x' := by omega
    subst this
    have : y = y' := by omega
    subst this
    exact ⟨row, hm, by rw [← k3, ← k4]; simp⟩
  · rintro ⟨row, hm, h⟩
    simp only [Bool.and_eq_true, decide_eq_true_eq] at h
    exact ⟨row, hm, mem_codes.2 ⟨x, y, hxy, hy, by rw [h.1, h.2]⟩⟩
theorem opY_congr {l : Nat} {P P' : Nat → Nat → Nat → Nat → Bool} {x y n : Nat} (hn : n ≤ l * l) (h : ∀ v w, v < l → w < l → P x y v w = P' x y v w) : opY l P x y n = opY l P' x y n := by
  unfold opY
  have : (List.range n).filter (fun k => !P x y (k / l) (k % l)) = (List.range n).filter (fun k => !P' x y (k / l) (k % l)) := by
    refine List.filter_congr fun k hk => ?_
    rw [List.mem_range] at hk
    have hl : 0 < l := by
      rcases Nat.eq_zero_or_pos l with h0 | h0
      · subst h0; omega
      · exact h0
    rw [h (k / l) (k % l) (Nat.div_lt_of_lt_mul (by omega)) (Nat.mod_lt _ hl)]
  rw [this]
theorem opAll_congr {l c : Nat} {P P' : Nat → Nat → Nat → Nat → Bool} (h : ∀ x y v w, x < y → y < c → v < l → w < l → P x y v w = P' x y v w) : opAll l c P = opAll l c P' := by
  unfold opAll opTo opX
  simp only [List.flatMap_def]
  congr 1
  refine List.map_congr_left fun x hx => ?_
  rw [List.mem_range] at hx
  congr 1
  refine List.map_congr_left fun j hj => ?_
  rw [List.mem_range] at hj
  exact opY_congr (Nat.le_refl _) fun v w hv hw => h x _ v w (by omega) (by omega) hv hw

theorem size4_ok (H : List Blk) (a : AV) (n : Nat) (cells : List AV) (ha : aview H a = some (n, cells)) : ACalls Try.prog f_impl_size__4int64 [a] H (fun r H' => r = I n ∧ H' = H) := by
  refine ACalls.introB s_impl_size__4int64 (by simp) ?_; intro hB hA; unfold c_impl_size__4int64; simp (config := { maxSteps := 1000000 }) (disch := (first | omega | (simp only [go_sem]; try omega))) only [go_sem, ↓GSplit_t, ↓GSplit_f, ↓GSplit_tf, ↓GSplit_ft, Nat.reduceAdd, Nat.reduceEqDiff, Nat.reduceLeDiff, Nat.reduceMul, Nat.reduceLT, reduceIte, Int.reduceToNat, bne_self_eq_false, beq_self_eq_true, w64_id, cast_succ, Bool.false_eq_true, Bool.and_true, Bool.true_and, Bool.and_false, Bool.false_and, Bool.not_not]
  repeat (first | (with_reducible refine SW.seq ?_) | (with_reducible refine SW.block ?_) | (with_reducible refine SW.rowC ?_) | (with_reducible refine SW.skip ?_) | (with_reducible refine SW.exit ?_) | (with_reducible intro _) | (with_reducible refine And.intro (by omega) ?_) | (simp (config := { maxSteps := 1000000 }) (disch := (first | omega | (simp only [go_sem]; try omega))) only [go_sem, ↓GSplit_t, ↓GSplit_f, ↓GSplit_tf, ↓GSplit_ft, Nat.reduceAdd, Nat.reduceEqDiff, Nat.reduceLeDiff, Nat.reduceMul, Nat.reduceLT, reduceIte, Int.reduceToNat, bne_self_eq_false, beq_self_eq_true, w64_id, cast_succ, Bool.false_eq_true, Bool.and_true, Bool.true_and, Bool.and_false, Bool.false_and, Bool.not_not, ha]))
  refine SW.ret ?_; (try simp only [go_sem]); (first | refine FunPost.one ?_ | refine FunPost.two ?_ | refine FunPost.three ?_); (try simp (config := { maxSteps := 1000000 }) (disch := (first | omega | (simp only [go_sem]; try omega))) only [go_sem, ↓GSplit_t, ↓GSplit_f, ↓GSplit_tf, ↓GSplit_ft, Nat.reduceAdd, Nat.reduceEqDiff, Nat.reduceLeDiff, Nat.reduceMul, Nat.reduceLT, reduceIte, Int.reduceToNat, bne_self_eq_false, beq_self_eq_true, w64_id, cast_succ, Bool.false_eq_true, Bool.and_true, Bool.true_and, Bool.and_false, Bool.false_and, Bool.not_not]); (first | (with_reducible refine GR.drop ?_ ?_; (simp only [and_self, and_true, true_and, implies_true, Bel_lit, Bel_I, Bel_Bv, Bel_nil, Bel_junk, Bel_nm, Bel_pc, Bel_il, Bel_agg, Bel_tup, Bel_fn, Bel_el, all_mapI, all_mapB, all_mapS, all_nilB, all_consB, EB_nil, EB_cons, BB_nil, BB_cons, Bel_ilS, Bel_ilSS, Bel_ilB, List.getElem?_cons_zero, List.take_succ_cons, List.take_zero, keep_nil, keep_cons])) | refine GR.of ?_); refine ⟨?_, rfl⟩; (try with_reducible rfl)

theorem UncoveredPairs_fn (l c : Int) (rows : List (List Int)) : PFn Try.prog f_impl_UncoveredPairs [.agg [I l, I c, ilSS rows]] (I (if arrayOk l c rows then ((opAll l.toNat c.toNat (covR rows)).length : Int) else 0)) := by
  have hva := ValidArray_fn l c rows
  cases hv : arrayOk l c rows with
  | false =>
    rw [hv] at hva
    intro H; refine ACalls.introB s_impl_UncoveredPairs (by simp) ?_; intro hB hA; unfold c_impl_UncoveredPairs; simp (config := { maxSteps := 1000000 }) (disch := (first | omega | (simp only [go_sem]; try omega))) only [go_sem, ↓GSplit_t, ↓GSplit_f, ↓GSplit_tf, ↓GSplit_ft, Nat.reduceAdd, Nat.reduceEqDiff, Nat.reduceLeDiff, Nat.reduceMul, Nat.reduceLT, reduceIte, Int.reduceToNat, bne_self_eq_false, beq_self_eq_true, w64_id, cast_succ, Bool.false_eq_true, Bool.and_true, Bool.true_and, Bool.and_false, Bool.false_and, Bool.not_not]
    repeat (first | (with_reducible refine SW.seq ?_) | (with_reducible refine SW.block ?_) | (with_reducible refine SW.rowC ?_) | (with_reducible refine SW.skip ?_) | (with_reducible refine SW.exit ?_) | (with_reducible refine PFn.use (hva) ?_) | (with_reducible refine PFn.useq (hva) ?_) | (with_reducible intro _) | (with_reducible refine And.intro (by omega) ?_) | (simp (config := { maxSteps := 1000000 }) (disch := (first | omega | (simp only [go_sem]; try omega))) only [go_sem, ↓GSplit_t, ↓GSplit_f, ↓GSplit_tf, ↓GSplit_ft, Nat.reduceAdd, Nat.reduceEqDiff, Nat.reduceLeDiff, Nat.reduceMul, Nat.reduceLT, reduceIte, Int.reduceToNat, bne_self_eq_false, beq_self_eq_true, w64_id, cast_succ, Bool.false_eq_true, Bool.and_true, Bool.true_and, Bool.and_false, Bool.false_and, Bool.not_not]))
    refine SW.condT rfl ?_
    repeat (first | (with_reducible refine SW.seq ?_) | (with_reducible refine SW.block ?_) | (with_reducible refine SW.rowC ?_) | (with_reducible refine SW.skip ?_) | (with_reducible refine SW.exit ?_) | (with_reducible intro _) | (with_reducible refine And.intro (by omega) ?_) | (simp (config := { maxSteps := 1000000 }) (disch := (first | omega | (simp only [go_sem]; try omega))) only [go_sem, ↓GSplit_t, ↓GSplit_f, ↓GSplit_tf, ↓GSplit_ft, Nat.reduceAdd, Nat.reduceEqDiff, Nat.reduceLeDiff, Nat.reduceMul, Nat.reduceLT, reduceIte, Int.reduceToNat, bne_self_eq_false, beq_self_eq_true, w64_id, cast_succ, Bool.false_eq_true, Bool.and_true, Bool.true_and, Bool.and_false, Bool.false_and, Bool.not_not]))
    refine SW.ret ?_; (try simp only [go_sem]); (first | refine FunPost.one ?_ | refine FunPost.two ?_ | refine FunPost.three ?_); (try simp (config := { maxSteps := 1000000 }) (disch := (first | omega | (simp only [go_sem]; try omega))) only [go_sem, ↓GSplit_t, ↓GSplit_f, ↓GSplit_tf, ↓GSplit_ft, Nat.reduceAdd, Nat.reduceEqDiff, Nat.reduceLeDiff, Nat.reduceMul, Nat.reduceLT, reduceIte, Int.reduceToNat, bne_self_eq_false, beq_self_eq_true, w64_id, cast_succ, Bool.false_eq_true, Bool.and_true, Bool.true_and, Bool.and_false, Bool.false_and, Bool.not_not]); (first | (with_reducible refine GR.drop ?_ ?_; (simp only [and_self, and_true, true_and, implies_true, Bel_lit, Bel_I, Bel_Bv, Bel_nil, Bel_junk, Bel_nm, Bel_pc, Bel_il, Bel_agg, Bel_tup, Bel_fn, Bel_el, all_mapI, all_mapB, all_mapS, all_nilB, all_consB, EB_nil, EB_cons, BB_nil, BB_cons, Bel_ilS, Bel_ilSS, Bel_ilB, List.getElem?_cons_zero, List.take_succ_cons, List.take_zero, keep_nil, keep_cons])) | refine GR.of ?_); refine ⟨?_, rfl⟩; (try with_reducible rfl)
  | true =>
    rw [hv] at hva
    simp only [arrayOk, Bool.and_eq_true, decide_eq_true_eq] at hv
    obtain ⟨⟨hs, hlen⟩, hrows⟩ := hv
    have hs2 := shapeOk_iff.1 hs
    obtain ⟨l, rfl⟩ := Int.eq_ofNat_of_zero_le (show 0 ≤ l by omega)
    obtain ⟨c, rfl⟩ := Int.eq_ofNat_of_zero_le (show 0 ≤ c by omega)
    have hrl := List.all_eq_true.1 hrows
    intro H; refine ACalls.introB s_impl_UncoveredPairs (by simp) ?_; intro hB hA; unfold c_impl_UncoveredPairs; simp (config := { maxSteps := 1000000 }) (disch := (first | omega | (simp only [go_sem]; try omega))) only [go_sem, ↓GSplit_t, ↓GSplit_f, ↓GSplit_tf, ↓GSplit_ft, Nat.reduceAdd, Nat.reduceEqDiff, Nat.reduceLeDiff, Nat.reduceMul, Nat.reduceLT, reduceIte, Int.reduceToNat, bne_self_eq_false, beq_self_eq_true, w64_id, cast_succ, Bool.false_eq_true, Bool.and_true, Bool.true_and, Bool.and_false, Bool.false_and, Bool.not_not]
    repeat (first | (with_reducible refine SW.seq ?_) | (with_reducible refine SW.block ?_) | (with_reducible refine SW.rowC ?_) | (with_reducible refine SW.skip ?_) | (with_reducible refine SW.exit ?_) | (with_reducible refine PFn.use (hva) ?_) | (with_reducible refine PFn.useq (hva) ?_) | (with_reducible intro _) | (with_reducible refine And.intro (by omega) ?_) | (simp (config := { maxSteps := 1000000 }) (disch := (first | omega | (simp only [go_sem]; try omega))) only [go_sem, ↓GSplit_t, ↓GSplit_f, ↓GSplit_tf, ↓GSplit_ft, Nat.reduceAdd, Nat.reduceEqDiff, Nat.reduceLeDiff, Nat.reduceMul, Nat.reduceLT, reduceIte, Int.reduceToNat, bne_self_eq_false, beq_self_eq_true, w64_id, cast_succ, Bool.false_eq_true, Bool.and_true, Bool.true_and, Bool.and_false, Bool.false_and, Bool.not_not]))
    refine SW.condF rfl ?_
    repeat (first | (with_reducible refine SW.seq ?_) | (with_reducible refine SW.block ?_) | (with_reducible refine SW.rowC ?_) | (with_reducible refine SW.skip ?_) | (with_reducible refine SW.exit ?_) | (with_reducible intro _) | (with_reducible refine And.intro (by omega) ?_) | (simp (config := { maxSteps := 1000000 }) (disch := (first | omega | (simp only [go_sem]; try omega))) only [go_sem, ↓GSplit_t, ↓GSplit_f, ↓GSplit_tf, ↓GSplit_ft, Nat.reduceAdd, Nat.reduceEqDiff, Nat.reduceLeDiff, Nat.reduceMul, Nat.reduceLT, reduceIte, Int.reduceToNat, bne_self_eq_false, beq_self_eq_true, w64_id, cast_succ, Bool.false_eq_true, Bool.and_true, Bool.true_and, Bool.and_false, Bool.false_and, Bool.not_not]))
    refine (newCover_ok _ l c (by omega) (by omega)).mono ?_
    rintro r H1 ⟨rfl, rfl⟩
    repeat (first | (with_reducible refine SW.seq ?_) | (with_reducible refine SW.block ?_) | (with_reducible refine SW.rowC ?_) | (with_reducible refine SW.skip ?_) | (with_reducible refine SW.exit ?_) | (with_reducible intro _) | (with_reducible refine And.intro (by omega) ?_) | (simp (config := { maxSteps := 1000000 }) (disch := (first | omega | (simp only [go_sem]; try omega))) only [go_sem, ↓GSplit_t, ↓GSplit_f, ↓GSplit_tf, ↓GSplit_ft, Nat.reduceAdd, Nat.reduceEqDiff, Nat.reduceLeDiff, Nat.reduceMul, Nat.reduceLT, reduceIte, Int.reduceToNat, bne_self_eq_false, beq_self_eq_true, w64_id, cast_succ, Bool.false_eq_true, Bool.and_true, Bool.true_and, Bool.and_false, Bool.false_and, Bool.not_not]))
    refine SW.loopE (fun E0 H0 q E' H' => ∃ (pre post : List (List Int)), rows = pre ++ post ∧ q = post.length ∧ E' = aput E0 17 (I pre.length) ∧ H' = H ++ [⟨0, tyArr, 1, [I l, I c, ilSS rows]⟩, bB (c * c * l * l) (pre.flatMap (codes l c)) 0, ⟨0, tyK, 1, [I l, I c, .nm (H.length + 1) 0 0 (c * c * l * l)]⟩]) rows.length ⟨[], rows, rfl, rfl, rfl, by simp [bB]⟩ ?_
    rintro q E' H' ⟨pre, post, hp, rfl, rfl, rfl⟩
    simp (config := { maxSteps := 1000000 }) (disch := (first | omega | (simp only [go_sem]; try omega))) only [go_sem, ↓GSplit_t, ↓GSplit_f, ↓GSplit_tf, ↓GSplit_ft, Nat.reduceAdd, Nat.reduceEqDiff, Nat.reduceLeDiff, Nat.reduceMul, Nat.reduceLT, reduceIte, Int.reduceToNat, bne_self_eq_false, beq_self_eq_true, w64_id, cast_succ, Bool.false_eq_true, Bool.and_true, Bool.true_and, Bool.and_false, Bool.false_and, Bool.not_not]
    repeat (first | (with_reducible refine SW.seq ?_) | (with_reducible refine SW.block ?_) | (with_reducible refine SW.rowC ?_) | (with_reducible refine SW.skip ?_) | (with_reducible refine SW.exit ?_) | (with_reducible intro _) | (with_reducible refine And.intro (by omega) ?_) | (simp (config := { maxSteps := 1000000 }) (disch := (first | omega | (simp only [go_sem]; try omega))) only [go_sem, ↓GSplit_t, ↓GSplit_f, ↓GSplit_tf, ↓GSplit_ft, Nat.reduceAdd, Nat.reduceEqDiff, Nat.reduceLeDiff, Nat.reduceMul, Nat.reduceLT, reduceIte, Int.reduceToNat, bne_self_eq_false, beq_self_eq_true, w64_id, cast_succ, Bool.false_eq_true, Bool.and_true, Bool.true_and, Bool.and_false, Bool.false_and, Bool.not_not]))
    (first | refine SW.condD rfl (fun h => ?_) (fun h => ?_) | refine SW.condN rfl (fun h => ?_) (fun h => ?_) | refine SW.condNB rfl (fun h => ?_) (fun h => ?_) | refine SW.condB rfl (fun h => ?_) (fun h => ?_))
    · cases post with
      | nil => exfalso; simp at hp; subst hp; omega
      | cons row post =>
        have hg : rows.getD pre.length [] = row := by subst hp; simp
        have hro := hrl row (by subst hp; simp)
        have hro2 := hro
        simp only [rowOk, Bool.and_eq_true, decide_eq_true_eq, List.all_eq_true] at hro2
        repeat (first | (with_reducible refine SW.seq ?_) | (with_reducible refine SW.block ?_) | (with_reducible refine SW.rowC ?_) | (with_reducible refine SW.skip ?_) | (with_reducible refine SW.exit ?_) | (with_reducible intro _) | (with_reducible refine And.intro (by omega) ?_) | (simp (config := { maxSteps := 1000000 }) (disch := (first | omega | (simp only [go_sem]; try omega))) only [go_sem, ↓GSplit_t, ↓GSplit_f, ↓GSplit_tf, ↓GSplit_ft, Nat.reduceAdd, Nat.reduceEqDiff, Nat.reduceLeDiff, Nat.reduceMul, Nat.reduceLT, reduceIte, Int.reduceToNat, bne_self_eq_false, beq_self_eq_true, w64_id, cast_succ, Bool.false_eq_true, Bool.and_true, Bool.true_and, Bool.and_false, Bool.false_and, Bool.not_not, hg]))
        refine (add_ok _ (H.length + 2) (H.length + 1) l c (pre.flatMap (codes l c)) row (by omega) (by omega) hro2.1 (fun x hx => by have := hro2.2 x hx; omega) (by omega) (by simp) (by simp)).mono ?_
        rintro r H1 rfl
        repeat (first | (with_reducible refine SW.seq ?_) | (with_reducible refine SW.block ?_) | (with_reducible refine SW.rowC ?_) | (with_reducible refine SW.skip ?_) | (with_reducible refine SW.exit ?_) | (with_reducible intro _) | (with_reducible refine And.intro (by omega) ?_) | (simp (config := { maxSteps := 1000000 }) (disch := (first | omega | (simp only [go_sem]; try omega))) only [go_sem, ↓GSplit_t, ↓GSplit_f, ↓GSplit_tf, ↓GSplit_ft, Nat.reduceAdd, Nat.reduceEqDiff, Nat.reduceLeDiff, Nat.reduceMul, Nat.reduceLT, reduceIte, Int.reduceToNat, bne_self_eq_false, beq_self_eq_true, w64_id, cast_succ, Bool.false_eq_true, Bool.and_true, Bool.true_and, Bool.and_false, Bool.false_and, Bool.not_not]))
        refine SLoop.next post.length (by simp) ⟨pre ++ [row], post, by simp [hp], rfl, ?_, ?_⟩
        · simp [go_sem]
        · simp
    · have : post = [] := by cases post with
        | nil => rfl
        | cons x post => exfalso; subst hp; simp at h; omega
      subst this
      rw [List.append_nil] at hp
      subst hp
      repeat (first | (with_reducible refine SW.seq ?_) | (with_reducible refine SW.block ?_) | (with_reducible refine SW.rowC ?_) | (with_reducible refine SW.skip ?_) | (with_reducible refine SW.exit ?_) | (with_reducible intro _) | (with_reducible refine And.intro (by omega) ?_) | (simp (config := { maxSteps := 1000000 }) (disch := (first | omega | (simp only [go_sem]; try omega))) only [go_sem, ↓GSplit_t, ↓GSplit_f, ↓GSplit_tf, ↓GSplit_ft, Nat.reduceAdd, Nat.reduceEqDiff, Nat.reduceLeDiff, Nat.reduceMul, Nat.reduceLT, reduceIte, Int.reduceToNat, bne_self_eq_false, beq_self_eq_true, w64_id, cast_succ, Bool.false_eq_true, Bool.and_true, Bool.true_and, Bool.and_false, Bool.false_and, Bool.not_not]))
      refine (open_ok _ (H.length + 2) (H.length + 1) l c (rows.flatMap (codes l c)) (by omega) (by omega) (by simp) (by simp)).mono ?_
      rintro r H1 ⟨ver, k, ext, rfl, rfl, hk, hc⟩
      have e : opAll l c (inP l c (rows.flatMap (codes l c))) = opAll l c (covR rows) := opAll_congr fun x y v w h1 h2 h3 h4 => inP_cov hrows h1 h2 h3 h4
      rw [e] at hc ⊢
      generalize opAll l c (covR rows) = L at *
      repeat (first | (with_reducible refine SW.seq ?_) | (with_reducible refine SW.block ?_) | (with_reducible refine SW.rowC ?_) | (with_reducible refine SW.skip ?_) | (with_reducible refine SW.exit ?_) | (with_reducible intro _) | (with_reducible refine And.intro (by omega) ?_) | (simp (config := { maxSteps := 1000000 }) (disch := (first | omega | (simp only [go_sem]; try omega))) only [go_sem, ↓GSplit_t, ↓GSplit_f, ↓GSplit_tf, ↓GSplit_ft, Nat.reduceAdd, Nat.reduceEqDiff, Nat.reduceLeDiff, Nat.reduceMul, Nat.reduceLT, reduceIte, Int.reduceToNat, bne_self_eq_false, beq_self_eq_true, w64_id, cast_succ, Bool.false_eq_true, Bool.and_true, Bool.true_and, Bool.and_false, Bool.false_and, Bool.not_not]))
      have hvw : aview (H ++ [⟨0, tyArr, 1, [I l, I c, ilSS rows]⟩, bB (c * c * l * l) (rows.flatMap (codes l c)) 0, ⟨0, tyK, 1, [I l, I c, .nm (H.length + 1) 0 0 (c * c * l * l)]⟩] ++ ext) (.nm k ver 0 L.length) = some (L.length, (L.flatten.map I).take (L.length * 4)) := by
        simp only [aview, hc]; rfl
      simp only [List.append_assoc, List.cons_append, List.nil_append] at hvw
      refine (size4_ok _ _ _ _ hvw).mono ?_
      rintro r H1 ⟨rfl, rfl⟩
      repeat (first | (with_reducible refine SW.seq ?_) | (with_reducible refine SW.block ?_) | (with_reducible refine SW.rowC ?_) | (with_reducible refine SW.skip ?_) | (with_reducible refine SW.exit ?_) | (with_reducible intro _) | (with_reducible refine And.intro (by omega) ?_) | (simp (config := { maxSteps := 1000000 }) (disch := (first | omega | (simp only [go_sem]; try omega))) only [go_sem, ↓GSplit_t, ↓GSplit_f, ↓GSplit_tf, ↓GSplit_ft, Nat.reduceAdd, Nat.reduceEqDiff, Nat.reduceLeDiff, Nat.reduceMul, Nat.reduceLT, reduceIte, Int.reduceToNat, bne_self_eq_false, beq_self_eq_true, w64_id, cast_succ, Bool.false_eq_true, Bool.and_true, Bool.true_and, Bool.and_false, Bool.false_and, Bool.not_not]))
      refine SW.ret ?_; (try simp only [go_sem]); (first | refine FunPost.one ?_ | refine FunPost.two ?_ | refine FunPost.three ?_); (try simp (config := { maxSteps := 1000000 }) (disch := (first | omega | (simp only [go_sem]; try omega))) only [go_sem, ↓GSplit_t, ↓GSplit_f, ↓GSplit_tf, ↓GSplit_ft, Nat.reduceAdd, Nat.reduceEqDiff, Nat.reduceLeDiff, Nat.reduceMul, Nat.reduceLT, reduceIte, Int.reduceToNat, bne_self_eq_false, beq_self_eq_true, w64_id, cast_succ, Bool.false_eq_true, Bool.and_true, Bool.true_and, Bool.and_false, Bool.false_and, Bool.not_not]); (first | (with_reducible refine GR.drop ?_ ?_; (simp only [and_self, and_true, true_and, implies_true, Bel_lit, Bel_I, Bel_Bv, Bel_nil, Bel_junk, Bel_nm, Bel_pc, Bel_il, Bel_agg, Bel_tup, Bel_fn, Bel_el, all_mapI, all_mapB, all_mapS, all_nilB, all_consB, EB_nil, EB_cons, BB_nil, BB_cons, Bel_ilS, Bel_ilSS, Bel_ilB, List.getElem?_cons_zero, List.take_succ_cons, List.take_zero, keep_nil, keep_cons])) | refine GR.of ?_); refine ⟨?_, rfl⟩; (try with_reducible rfl)

theorem l16Covered_fn (rows : List (List Int)) (x y v w : Nat) (hx : ∀ row ∈ rows, x < row.length ∧ y < row.length) : PFn Try.prog f_spec_l16Covered [ilSS rows, I x, I y, I v, I w] (Bv (covR rows x y v w)) := by
  intro H; refine ACalls.introB s_spec_l16Covered (by simp) ?_; intro hB hA; unfold c_spec_l16Covered; simp (config := { maxSteps := 1000000 }) (disch := (first | omega | (simp only [go_sem]; try omega))) only [go_sem, ↓GSplit_t, ↓GSplit_f, ↓GSplit_tf, ↓GSplit_ft, Nat.reduceAdd, Nat.reduceEqDiff, Nat.reduceLeDiff, Nat.reduceMul, Nat.reduceLT, reduceIte, Int.reduceToNat, bne_self_eq_false, beq_self_eq_true, w64_id, cast_succ, Bool.false_eq_true, Bool.and_true, Bool.true_and, Bool.and_false, Bool.false_and, Bool.not_not]
  repeat (first | (with_reducible refine SW.seq ?_) | (with_reducible refine SW.block ?_) | (with_reducible refine SW.rowC ?_) | (with_reducible refine SW.skip ?_) | (with_reducible refine SW.exit ?_) | (with_reducible intro _) | (with_reducible refine And.intro (by omega) ?_) | (simp (config := { maxSteps := 1000000 }) (disch := (first | omega | (simp only [go_sem]; try omega))) only [go_sem, ↓GSplit_t, ↓GSplit_f, ↓GSplit_tf, ↓GSplit_ft, Nat.reduceAdd, Nat.reduceEqDiff, Nat.reduceLeDiff, Nat.reduceMul, Nat.reduceLT, reduceIte, Int.reduceToNat, bne_self_eq_false, beq_self_eq_true, w64_id, cast_succ, Bool.false_eq_true, Bool.and_true, Bool.true_and, Bool.and_false, Bool.false_and, Bool.not_not]))
  refine SW.loopE (fun E0 H0 q E' H' => ∃ (pre post : List (List Int)), rows = pre ++ post ∧ q = post.length ∧ E' = aput E0 11 (I pre.length) ∧ H' = H0 ∧ covR pre x y v w = false) rows.length ⟨[], rows, rfl, rfl, rfl, rfl, rfl⟩ ?_
  rintro q E' H' ⟨pre, post, hp, rfl, rfl, rfl, ha⟩
  simp (config := { maxSteps := 1000000 }) (disch := (first | omega | (simp only [go_sem]; try omega))) only [go_sem, ↓GSplit_t, ↓GSplit_f, ↓GSplit_tf, ↓GSplit_ft, Nat.reduceAdd, Nat.reduceEqDiff, Nat.reduceLeDiff, Nat.reduceMul, Nat.reduceLT, reduceIte, Int.reduceToNat, bne_self_eq_false, beq_self_eq_true, w64_id, cast_succ, Bool.false_eq_true, Bool.and_true, Bool.true_and, Bool.and_false, Bool.false_and, Bool.not_not]
  repeat (first | (with_reducible refine SW.seq ?_) | (with_reducible refine SW.block ?_) | (with_reducible refine SW.rowC ?_) | (with_reducible refine SW.skip ?_) | (with_reducible refine SW.exit ?_) | (with_reducible intro _) | (with_reducible refine And.intro (by omega) ?_) | (simp (config := { maxSteps := 1000000 }) (disch := (first | omega | (simp only [go_sem]; try omega))) only [go_sem, ↓GSplit_t, ↓GSplit_f, ↓GSplit_tf, ↓GSplit_ft, Nat.reduceAdd, Nat.reduceEqDiff, Nat.reduceLeDiff, Nat.reduceMul, Nat.reduceLT, reduceIte, Int.reduceToNat, bne_self_eq_false, beq_self_eq_true, w64_id, cast_succ, Bool.false_eq_true, Bool.and_true, Bool.true_and, Bool.and_false, Bool.false_and, Bool.not_not]))
  (first | refine SW.condD rfl (fun h => ?_) (fun h => ?_) | refine SW.condN rfl (fun h => ?_) (fun h => ?_) | refine SW.condNB rfl (fun h => ?_) (fun h => ?_) | refine SW.condB rfl (fun h => ?_) (fun h => ?_))
  · cases post with
    | nil => exfalso; simp at hp; subst hp; omega
    | cons row post =>
      have hg : rows.getD pre.length [] = row := by subst hp; simp
      have hro := hx row (by subst hp; simp)
      have e1 : covR [row] x y v w = (decide (row.getD x 0 = (v : Int)) && decide (row.getD y 0 = (w : Int))) := by simp [covR]
      have e2 : covR (pre ++ row :: post) x y v w = (covR pre x y v w || (covR [row] x y v w || covR post x y v w)) := by simp [covR]
      have e3 : covR (pre ++ [row]) x y v w = (covR pre x y v w || covR [row] x y v w) := by simp [covR]
      by_cases h1 : row.getD x 0 = (v : Int)
      · repeat (first | (with_reducible refine SW.seq ?_) | (with_reducible refine SW.block ?_) | (with_reducible refine SW.rowC ?_) | (with_reducible refine SW.skip ?_) | (with_reducible refine SW.exit ?_) | (with_reducible intro _) | (with_reducible refine And.intro (by omega) ?_) | (simp (config := { maxSteps := 1000000 }) (disch := (first | omega | (simp only [go_sem]; try omega))) only [go_sem, ↓GSplit_t, ↓GSplit_f, ↓GSplit_tf, ↓GSplit_ft, Nat.reduceAdd, Nat.reduceEqDiff, Nat.reduceLeDiff, Nat.reduceMul, Nat.reduceLT, reduceIte, Int.reduceToNat, bne_self_eq_false, beq_self_eq_true, w64_id, cast_succ, Bool.false_eq_true, Bool.and_true, Bool.true_and, Bool.and_false, Bool.false_and, Bool.not_not, hg, h1]))
        by_cases h2 : row.getD y 0 = (w : Int)
        · repeat (first | (with_reducible refine SW.seq ?_) | (with_reducible refine SW.block ?_) | (with_reducible refine SW.rowC ?_) | (with_reducible refine SW.skip ?_) | (with_reducible refine SW.exit ?_) | (with_reducible intro _) | (with_reducible refine And.intro (by omega) ?_) | (simp (config := { maxSteps := 1000000 }) (disch := (first | omega | (simp only [go_sem]; try omega))) only [go_sem, ↓GSplit_t, ↓GSplit_f, ↓GSplit_tf, ↓GSplit_ft, Nat.reduceAdd, Nat.reduceEqDiff, Nat.reduceLeDiff, Nat.reduceMul, Nat.reduceLT, reduceIte, Int.reduceToNat, bne_self_eq_false, beq_self_eq_true, w64_id, cast_succ, Bool.false_eq_true, Bool.and_true, Bool.true_and, Bool.and_false, Bool.false_and, Bool.not_not, hg, h1, h2]))
          refine SW.condT rfl ?_
          repeat (first | (with_reducible refine SW.seq ?_) | (with_reducible refine SW.block ?_) | (with_reducible refine SW.rowC ?_) | (with_reducible refine SW.skip ?_) | (with_reducible refine SW.exit ?_) | (with_reducible intro _) | (with_reducible refine And.intro (by omega) ?_) | (simp (config := { maxSteps := 1000000 }) (disch := (first | omega | (simp only [go_sem]; try omega))) only [go_sem, ↓GSplit_t, ↓GSplit_f, ↓GSplit_tf, ↓GSplit_ft, Nat.reduceAdd, Nat.reduceEqDiff, Nat.reduceLeDiff, Nat.reduceMul, Nat.reduceLT, reduceIte, Int.reduceToNat, bne_self_eq_false, beq_self_eq_true, w64_id, cast_succ, Bool.false_eq_true, Bool.and_true, Bool.true_and, Bool.and_false, Bool.false_and, Bool.not_not]))
          refine SW.ret ?_; (try simp only [go_sem]); (first | refine FunPost.one ?_ | refine FunPost.two ?_ | refine FunPost.three ?_); (try simp (config := { maxSteps := 1000000 }) (disch := (first | omega | (simp only [go_sem]; try omega))) only [go_sem, ↓GSplit_t, ↓GSplit_f, ↓GSplit_tf, ↓GSplit_ft, Nat.reduceAdd, Nat.reduceEqDiff, Nat.reduceLeDiff, Nat.reduceMul, Nat.reduceLT, reduceIte, Int.reduceToNat, bne_self_eq_false, beq_self_eq_true, w64_id, cast_succ, Bool.false_eq_true, Bool.and_true, Bool.true_and, Bool.and_false, Bool.false_and, Bool.not_not]); (first | (with_reducible refine GR.drop ?_ ?_; (simp only [and_self, and_true, true_and, implies_true, Bel_lit, Bel_I, Bel_Bv, Bel_nil, Bel_junk, Bel_nm, Bel_pc, Bel_il, Bel_agg, Bel_tup, Bel_fn, Bel_el, all_mapI, all_mapB, all_mapS, all_nilB, all_consB, EB_nil, EB_cons, BB_nil, BB_cons, Bel_ilS, Bel_ilSS, Bel_ilB, List.getElem?_cons_zero, List.take_succ_cons, List.take_zero, keep_nil, keep_cons])) | refine GR.of ?_); refine ⟨?_, rfl⟩; (try with_reducible rfl)
          rw [hp, e2, e1, decide_eq_true h1, decide_eq_true h2]; simp
        · repeat (first | (with_reducible refine SW.seq ?_) | (with_reducible refine SW.block ?_) | (with_reducible refine SW.rowC ?_) | (with_reducible refine SW.skip ?_) | (with_reducible refine SW.exit ?_) | (with_reducible intro _) | (with_reducible refine And.intro (by omega) ?_) | (simp (config := { maxSteps := 1000000 }) (disch := (first | omega | (simp only [go_sem]; try omega))) only [go_sem, ↓GSplit_t, ↓GSplit_f, ↓GSplit_tf, ↓GSplit_ft, Nat.reduceAdd, Nat.reduceEqDiff, Nat.reduceLeDiff, Nat.reduceMul, Nat.reduceLT, reduceIte, Int.reduceToNat, bne_self_eq_false, beq_self_eq_true, w64_id, cast_succ, Bool.false_eq_true, Bool.and_true, Bool.true_and, Bool.and_false, Bool.false_and, Bool.not_not, hg, h1, h2]))
          refine SW.condF rfl ?_
          repeat (first | (with_reducible refine SW.seq ?_) | (with_reducible refine SW.block ?_) | (with_reducible refine SW.rowC ?_) | (with_reducible refine SW.skip ?_) | (with_reducible refine SW.exit ?_) | (with_reducible intro _) | (with_reducible refine And.intro (by omega) ?_) | (simp (config := { maxSteps := 1000000 }) (disch := (first | omega | (simp only [go_sem]; try omega))) only [go_sem, ↓GSplit_t, ↓GSplit_f, ↓GSplit_tf, ↓GSplit_ft, Nat.reduceAdd, Nat.reduceEqDiff, Nat.reduceLeDiff, Nat.reduceMul, Nat.reduceLT, reduceIte, Int.reduceToNat, bne_self_eq_false, beq_self_eq_true, w64_id, cast_succ, Bool.false_eq_true, Bool.and_true, Bool.true_and, Bool.and_false, Bool.false_and, Bool.not_not]))
          refine SLoop.next post.length (by simp) ⟨pre ++ [row], post, by simp [hp], rfl, ?_, rfl, ?_⟩
          · simp [go_sem]
          · rw [e3, e1, ha, decide_eq_false h2]; simp
      · repeat (first | (with_reducible refine SW.seq ?_) | (with_reducible refine SW.block ?_) | (with_reducible refine SW.rowC ?_) | (with_reducible refine SW.skip ?_) | (with_reducible refine SW.exit ?_) | (with_reducible intro _) | (with_reducible refine And.intro (by omega) ?_) | (simp (config := { maxSteps := 1000000 }) (disch := (first | omega | (simp only [go_sem]; try omega))) only [go_sem, ↓GSplit_t, ↓GSplit_f, ↓GSplit_tf, ↓GSplit_ft, Nat.reduceAdd, Nat.reduceEqDiff, Nat.reduceLeDiff, Nat.reduceMul, Nat.reduceLT, reduceIte, Int.reduceToNat, bne_self_eq_false, beq_self_eq_true, w64_id, cast_succ, Bool.false_eq_true, Bool.and_true, Bool.true_and, Bool.and_false, Bool.false_and, Bool.not_not, hg, h1]))
        refine SW.condF rfl ?_
        repeat (first | (with_reducible refine SW.seq ?_) | (with_reducible refine SW.block ?_) | (with_reducible refine SW.rowC ?_) | (with_reducible refine SW.skip ?_) | (with_reducible refine SW.exit ?_) | (with_reducible intro _) | (with_reducible refine And.intro (by omega) ?_) | (simp (config := { maxSteps := 1000000 }) (disch := (first | omega | (simp only [go_sem]; try omega))) only [go_sem, ↓GSplit_t, ↓GSplit_f, ↓GSplit_tf, ↓GSplit_ft, Nat.reduceAdd, Nat.reduceEqDiff, Nat.reduceLeDiff, Nat.reduceMul, Nat.reduceLT, reduceIte, Int.reduceToNat, bne_self_eq_false, beq_self_eq_true, w64_id, cast_succ, Bool.false_eq_true, Bool.and_true, Bool.true_and, Bool.and_false, Bool.false_and, Bool.not_not]))
        refine SLoop.next post.length (by simp) ⟨pre ++ [row], post, by simp [hp], rfl, ?_, rfl, ?_⟩
        · simp [go_sem]
        · rw [e3, e1, ha, decide_eq_false h1]; simp
  · have : post = [] := by cases post with
      | nil => rfl
      | cons x post => exfalso; subst hp; simp at h; omega
    subst this
    rw [List.append_nil] at hp
    subst hp
    repeat (first | (with_reducible refine SW.seq ?_) | (with_reducible refine SW.block ?_) | (with_reducible refine SW.rowC ?_) | (with_reducible refine SW.skip ?_) | (with_reducible refine SW.exit ?_) | (with_reducible intro _) | (with_reducible refine And.intro (by omega) ?_) | (simp (config := { maxSteps := 1000000 }) (disch := (first | omega | (simp only [go_sem]; try omega))) only [go_sem, ↓GSplit_t, ↓GSplit_f, ↓GSplit_tf, ↓GSplit_ft, Nat.reduceAdd, Nat.reduceEqDiff, Nat.reduceLeDiff, Nat.reduceMul, Nat.reduceLT, reduceIte, Int.reduceToNat, bne_self_eq_false, beq_self_eq_true, w64_id, cast_succ, Bool.false_eq_true, Bool.and_true, Bool.true_and, Bool.and_false, Bool.false_and, Bool.not_not]))
    refine SW.ret ?_; (try simp only [go_sem]); (first | refine FunPost.one ?_ | refine FunPost.two ?_ | refine FunPost.three ?_); (try simp (config := { maxSteps := 1000000 }) (disch := (first | omega | (simp only [go_sem]; try omega))) only [go_sem, ↓GSplit_t, ↓GSplit_f, ↓GSplit_tf, ↓GSplit_ft, Nat.reduceAdd, Nat.reduceEqDiff, Nat.reduceLeDiff, Nat.reduceMul, Nat.reduceLT, reduceIte, Int.reduceToNat, bne_self_eq_false, beq_self_eq_true, w64_id, cast_succ, Bool.false_eq_true, Bool.and_true, Bool.true_and, Bool.and_false, Bool.false_and, Bool.not_not]); (first | (with_reducible refine GR.drop ?_ ?_; (simp only [and_self, and_true, true_and, implies_true, Bel_lit, Bel_I, Bel_Bv, Bel_nil, Bel_junk, Bel_nm, Bel_pc, Bel_il, Bel_agg, Bel_tup, Bel_fn, Bel_el, all_mapI, all_mapB, all_mapS, all_nilB, all_consB, EB_nil, EB_cons, BB_nil, BB_cons, Bel_ilS, Bel_ilSS, Bel_ilB, List.getElem?_cons_zero, List.take_succ_cons, List.take_zero, keep_nil, keep_cons])) | refine GR.of ?_); refine ⟨?_, rfl⟩; (try with_reducible rfl)
    rw [ha]

theorem specUncovered_fn (l c : Int) (rows : List (List Int)) : PFn Try.prog f_spec_UncoveredPairs [.agg [I l, I c, ilSS rows]] (I (if arrayOk l c rows then ((opAll l.toNat c.toNat (covR rows)).length : Int) else 0)) := by
  cases hv : arrayOk l c rows with
  | false =>
    intro H; refine ACalls.introB s_spec_UncoveredPairs (by simp) ?_; intro hB hA; unfold c_spec_UncoveredPairs; simp (config := { maxSteps := 1000000 }) (disch := (first | omega | (simp only [go_sem]; try omega))) only [go_sem, ↓GSplit_t, ↓GSplit_f, ↓GSplit_tf, ↓GSplit_ft, Nat.reduceAdd, Nat.reduceEqDiff, Nat.reduceLeDiff, Nat.reduceMul, Nat.reduceLT, reduceIte, Int.reduceToNat, bne_self_eq_false, beq_self_eq_true, w64_id, cast_succ, Bool.false_eq_true, Bool.and_true, Bool.true_and, Bool.and_false, Bool.false_and, Bool.not_not]
    repeat (first | (with_reducible refine SW.seq ?_) | (with_reducible refine SW.block ?_) | (with_reducible refine SW.rowC ?_) | (with_reducible refine SW.skip ?_) | (with_reducible refine SW.exit ?_) | (with_reducible intro _) | (with_reducible refine And.intro (by omega) ?_) | (simp (config := { maxSteps := 1000000 }) (disch := (first | omega | (simp only [go_sem]; try omega))) only [go_sem, ↓GSplit_t, ↓GSplit_f, ↓GSplit_tf, ↓GSplit_ft, Nat.reduceAdd, Nat.reduceEqDiff, Nat.reduceLeDiff, Nat.reduceMul, Nat.reduceLT, reduceIte, Int.reduceToNat, bne_self_eq_false, beq_self_eq_true, w64_id, cast_succ, Bool.false_eq_true, Bool.and_true, Bool.true_and, Bool.and_false, Bool.false_and, Bool.not_not]))
    refine ACalls.fn (l16Ok_ok _ _ 0 l c rows (by simp)) ?_
    rw [hv]
    repeat (first | (with_reducible refine SW.seq ?_) | (with_reducible refine SW.block ?_) | (with_reducible refine SW.rowC ?_) | (with_reducible refine SW.skip ?_) | (with_reducible refine SW.exit ?_) | (with_reducible intro _) | (with_reducible refine And.intro (by omega) ?_) | (simp (config := { maxSteps := 1000000 }) (disch := (first | omega | (simp only [go_sem]; try omega))) only [go_sem, ↓GSplit_t, ↓GSplit_f, ↓GSplit_tf, ↓GSplit_ft, Nat.reduceAdd, Nat.reduceEqDiff, Nat.reduceLeDiff, Nat.reduceMul, Nat.reduceLT, reduceIte, Int.reduceToNat, bne_self_eq_false, beq_self_eq_true, w64_id, cast_succ, Bool.false_eq_true, Bool.and_true, Bool.true_and, Bool.and_false, Bool.false_and, Bool.not_not]))
    refine SW.condT rfl ?_
    repeat (first | (with_reducible refine SW.seq ?_) | (with_reducible refine SW.block ?_) | (with_reducible refine SW.rowC ?_) | (with_reducible refine SW.skip ?_) | (with_reducible refine SW.exit ?_) | (with_reducible intro _) | (with_reducible refine And.intro (by omega) ?_) | (simp (config := { maxSteps := 1000000 }) (disch := (first | omega | (simp only [go_sem]; try omega))) only [go_sem, ↓GSplit_t, ↓GSplit_f, ↓GSplit_tf, ↓GSplit_ft, Nat.reduceAdd, Nat.reduceEqDiff, Nat.reduceLeDiff, Nat.reduceMul, Nat.reduceLT, reduceIte, Int.reduceToNat, bne_self_eq_false, beq_self_eq_true, w64_id, cast_succ, Bool.false_eq_true, Bool.and_true, Bool.true_and, Bool.and_false, Bool.false_and, Bool.not_not]))
    refine SW.ret ?_; (try simp only [go_sem]); (first | refine FunPost.one ?_ | refine FunPost.two ?_ | refine FunPost.three ?_); (try simp (config := { maxSteps := 1000000 }) (disch := (first | omega | (simp only [go_sem]; try omega))) only [go_sem, ↓GSplit_t, ↓GSplit_f, ↓GSplit_tf, ↓GSplit_ft, Nat.reduceAdd, Nat.reduceEqDiff, Nat.reduceLeDiff, Nat.reduceMul, Nat.reduceLT, reduceIte, Int.reduceToNat, bne_self_eq_false, beq_self_eq_true, w64_id, cast_succ, Bool.false_eq_true, Bool.and_true, Bool.true_and, Bool.and_false, Bool.false_and, Bool.not_not]); (first | (with_reducible refine GR.drop ?_ ?_; (simp only [and_self, and_true, true_and, implies_true, Bel_lit, Bel_I, Bel_Bv, Bel_nil, Bel_junk, Bel_nm, Bel_pc, Bel_il, Bel_agg, Bel_tup, Bel_fn, Bel_el, all_mapI, all_mapB, all_mapS, all_nilB, all_consB, EB_nil, EB_cons, BB_nil, BB_cons, Bel_ilS, Bel_ilSS, Bel_ilB, List.getElem?_cons_zero, List.take_succ_cons, List.take_zero, keep_nil, keep_cons])) | refine GR.of ?_); refine ⟨?_, rfl⟩; (try with_reducible rfl)
  | true =>
    have hv0 := hv
    simp only [arrayOk, Bool.and_eq_true, decide_eq_true_eq] at hv
    obtain ⟨⟨hs, hlen⟩, hrows⟩ := hv
    have hs2 := shapeOk_iff.1 hs
    obtain ⟨l, rfl⟩ := Int.eq_ofNat_of_zero_le (show 0 ≤ l by omega)
    obtain ⟨c, rfl⟩ := Int.eq_ofNat_of_zero_le (show 0 ≤ c by omega)
    have hrl := List.all_eq_true.1 hrows
    intro H; refine ACalls.introB s_spec_UncoveredPairs (by simp) ?_; intro hB hA; unfold c_spec_UncoveredPairs; simp (config := { maxSteps := 1000000 }) (disch := (first | omega | (simp only [go_sem]; try omega))) only [go_sem, ↓GSplit_t, ↓GSplit_f, ↓GSplit_tf, ↓GSplit_ft, Nat.reduceAdd, Nat.reduceEqDiff, Nat.reduceLeDiff, Nat.reduceMul, Nat.reduceLT, reduceIte, Int.reduceToNat, bne_self_eq_false, beq_self_eq_true, w64_id, cast_succ, Bool.false_eq_true, Bool.and_true, Bool.true_and, Bool.and_false, Bool.false_and, Bool.not_not]
    repeat (first | (with_reducible refine SW.seq ?_) | (with_reducible refine SW.block ?_) | (with_reducible refine SW.rowC ?_) | (with_reducible refine SW.skip ?_) | (with_reducible refine SW.exit ?_) | (with_reducible intro _) | (with_reducible refine And.intro (by omega) ?_) | (simp (config := { maxSteps := 1000000 }) (disch := (first | omega | (simp only [go_sem]; try omega))) only [go_sem, ↓GSplit_t, ↓GSplit_f, ↓GSplit_tf, ↓GSplit_ft, Nat.reduceAdd, Nat.reduceEqDiff, Nat.reduceLeDiff, Nat.reduceMul, Nat.reduceLT, reduceIte, Int.reduceToNat, bne_self_eq_false, beq_self_eq_true, w64_id, cast_succ, Bool.false_eq_true, Bool.and_true, Bool.true_and, Bool.and_false, Bool.false_and, Bool.not_not]))
    refine ACalls.fn (l16Ok_ok _ _ 0 l c rows (by simp)) ?_
    rw [hv0]
    repeat (first | (with_reducible refine SW.seq ?_) | (with_reducible refine SW.block ?_) | (with_reducible refine SW.rowC ?_) | (with_reducible refine SW.skip ?_) | (with_reducible refine SW.exit ?_) | (with_reducible intro _) | (with_reducible refine And.intro (by omega) ?_) | (simp (config := { maxSteps := 1000000 }) (disch := (first | omega | (simp only [go_sem]; try omega))) only [go_sem, ↓GSplit_t, ↓GSplit_f, ↓GSplit_tf, ↓GSplit_ft, Nat.reduceAdd, Nat.reduceEqDiff, Nat.reduceLeDiff, Nat.reduceMul, Nat.reduceLT, reduceIte, Int.reduceToNat, bne_self_eq_false, beq_self_eq_true, w64_id, cast_succ, Bool.false_eq_true, Bool.and_true, Bool.true_and, Bool.and_false, Bool.false_and, Bool.not_not]))
    refine SW.condF rfl ?_
    repeat (first | (with_reducible refine SW.seq ?_) | (with_reducible refine SW.block ?_) | (with_reducible refine SW.rowC ?_) | (with_reducible refine SW.skip ?_) | (with_reducible refine SW.exit ?_) | (with_reducible intro _) | (with_reducible refine And.intro (by omega) ?_) | (simp (config := { maxSteps := 1000000 }) (disch := (first | omega | (simp only [go_sem]; try omega))) only [go_sem, ↓GSplit_t, ↓GSplit_f, ↓GSplit_tf, ↓GSplit_ft, Nat.reduceAdd, Nat.reduceEqDiff, Nat.reduceLeDiff, Nat.reduceMul, Nat.reduceLT, reduceIte, Int.reduceToNat, bne_self_eq_false, beq_self_eq_true, w64_id, cast_succ, Bool.false_eq_true, Bool.and_true, Bool.true_and, Bool.and_false, Bool.false_and, Bool.not_not]))
    generalize hP : covR rows = P
    have hrw : ∀ row ∈ rows, (row.length : Int) = c := fun row hm => by have := hrl row hm; simp only [rowOk, Bool.and_eq_true, decide_eq_true_eq] at this; exact this.1
    have hl16 : l * l ≤ 16 * 16 := Nat.mul_le_mul (by omega) (by omega)
    have il : (l : Int) * l = ((l * l : Nat) : Int) := by simp
    have hll : w64 ((l : Int) * l) = (l : Int) * l := by rw [w64_id] <;> rw [il] <;> omega
    refine SW.loopE (fun E0 H0 q E' H' => ∃ (x many : Nat), many = (opTo l c P x).length ∧ x ≤ c ∧ q = c - x ∧ E' = aput (aput E0 4 (I x)) 3 (I many) ∧ H' = H0) c ⟨0, 0, by simp [opTo], by omega, by omega, rfl, rfl⟩ ?_
    rintro q E' H' ⟨x, many, hm, hx, rfl, rfl, rfl⟩
    simp (config := { maxSteps := 1000000 }) (disch := (first | omega | (simp only [go_sem]; try omega))) only [go_sem, ↓GSplit_t, ↓GSplit_f, ↓GSplit_tf, ↓GSplit_ft, Nat.reduceAdd, Nat.reduceEqDiff, Nat.reduceLeDiff, Nat.reduceMul, Nat.reduceLT, reduceIte, Int.reduceToNat, bne_self_eq_false, beq_self_eq_true, w64_id, cast_succ, Bool.false_eq_true, Bool.and_true, Bool.true_and, Bool.and_false, Bool.false_and, Bool.not_not]
    repeat (first | (with_reducible refine SW.seq ?_) | (with_reducible refine SW.block ?_) | (with_reducible refine SW.rowC ?_) | (with_reducible refine SW.skip ?_) | (with_reducible refine SW.exit ?_) | (with_reducible intro _) | (with_reducible refine And.intro (by omega) ?_) | (simp (config := { maxSteps := 1000000 }) (disch := (first | omega | (simp only [go_sem]; try omega))) only [go_sem, ↓GSplit_t, ↓GSplit_f, ↓GSplit_tf, ↓GSplit_ft, Nat.reduceAdd, Nat.reduceEqDiff, Nat.reduceLeDiff, Nat.reduceMul, Nat.reduceLT, reduceIte, Int.reduceToNat, bne_self_eq_false, beq_self_eq_true, w64_id, cast_succ, Bool.false_eq_true, Bool.and_true, Bool.true_and, Bool.and_false, Bool.false_and, Bool.not_not]))
    (first | refine SW.condD rfl (fun h => ?_) (fun h => ?_) | refine SW.condN rfl (fun h => ?_) (fun h => ?_) | refine SW.condNB rfl (fun h => ?_) (fun h => ?_) | refine SW.condB rfl (fun h => ?_) (fun h => ?_))
    · have hxc : x < c := by omega
      have b1 := opTo_len l c P x (by omega) (by omega) (by omega)
      repeat (first | (with_reducible refine SW.seq ?_) | (with_reducible refine SW.block ?_) | (with_reducible refine SW.rowC ?_) | (with_reducible refine SW.skip ?_) | (with_reducible refine SW.exit ?_) | (with_reducible intro _) | (with_reducible refine And.intro (by omega) ?_) | (simp (config := { maxSteps := 1000000 }) (disch := (first | omega | (simp only [go_sem]; try omega))) only [go_sem, ↓GSplit_t, ↓GSplit_f, ↓GSplit_tf, ↓GSplit_ft, Nat.reduceAdd, Nat.reduceEqDiff, Nat.reduceLeDiff, Nat.reduceMul, Nat.reduceLT, reduceIte, Int.reduceToNat, bne_self_eq_false, beq_self_eq_true, w64_id, cast_succ, Bool.false_eq_true, Bool.and_true, Bool.true_and, Bool.and_false, Bool.false_and, Bool.not_not]))
      refine SW.loopE (fun E0 H0 q E' H' => ∃ (y many2 : Nat), many2 = many + (opX l P x y).length ∧ x + 1 ≤ y ∧ y ≤ c ∧ q = c - y ∧ E' = aput (aput E0 5 (I y)) 3 (I many2) ∧ H' = H0) (c - (x + 1)) ⟨x + 1, many, by simp [opX], by omega, by omega, by omega, rfl, rfl⟩ ?_
      rintro q E' H' ⟨y, many2, hm2, hy0, hy, rfl, rfl, rfl⟩
      simp (config := { maxSteps := 1000000 }) (disch := (first | omega | (simp only [go_sem]; try omega))) only [go_sem, ↓GSplit_t, ↓GSplit_f, ↓GSplit_tf, ↓GSplit_ft, Nat.reduceAdd, Nat.reduceEqDiff, Nat.reduceLeDiff, Nat.reduceMul, Nat.reduceLT, reduceIte, Int.reduceToNat, bne_self_eq_false, beq_self_eq_true, w64_id, cast_succ, Bool.false_eq_true, Bool.and_true, Bool.true_and, Bool.and_false, Bool.false_and, Bool.not_not]
      repeat (first | (with_reducible refine SW.seq ?_) | (with_reducible refine SW.block ?_) | (with_reducible refine SW.rowC ?_) | (with_reducible refine SW.skip ?_) | (with_reducible refine SW.exit ?_) | (with_reducible intro _) | (with_reducible refine And.intro (by omega) ?_) | (simp (config := { maxSteps := 1000000 }) (disch := (first | omega | (simp only [go_sem]; try omega))) only [go_sem, ↓GSplit_t, ↓GSplit_f, ↓GSplit_tf, ↓GSplit_ft, Nat.reduceAdd, Nat.reduceEqDiff, Nat.reduceLeDiff, Nat.reduceMul, Nat.reduceLT, reduceIte, Int.reduceToNat, bne_self_eq_false, beq_self_eq_true, w64_id, cast_succ, Bool.false_eq_true, Bool.and_true, Bool.true_and, Bool.and_false, Bool.false_and, Bool.not_not]))
      (first | refine SW.condD rfl (fun h2 => ?_) (fun h2 => ?_) | refine SW.condN rfl (fun h2 => ?_) (fun h2 => ?_) | refine SW.condNB rfl (fun h2 => ?_) (fun h2 => ?_) | refine SW.condB rfl (fun h2 => ?_) (fun h2 => ?_))
      · have hyc : y < c := by omega
        have b2 := opX_len l P x y (by omega) (by omega)
        repeat (first | (with_reducible refine SW.seq ?_) | (with_reducible refine SW.block ?_) | (with_reducible refine SW.rowC ?_) | (with_reducible refine SW.skip ?_) | (with_reducible refine SW.exit ?_) | (with_reducible intro _) | (with_reducible refine And.intro (by omega) ?_) | (simp (config := { maxSteps := 1000000 }) (disch := (first | omega | (simp only [go_sem]; try omega))) only [go_sem, ↓GSplit_t, ↓GSplit_f, ↓GSplit_tf, ↓GSplit_ft, Nat.reduceAdd, Nat.reduceEqDiff, Nat.reduceLeDiff, Nat.reduceMul, Nat.reduceLT, reduceIte, Int.reduceToNat, bne_self_eq_false, beq_self_eq_true, w64_id, cast_succ, Bool.false_eq_true, Bool.and_true, Bool.true_and, Bool.and_false, Bool.false_and, Bool.not_not]))
        refine SW.loopE (fun E0 H0 q E' H' => ∃ (n many3 : Nat), many3 = many2 + (opY l P x y n).length ∧ n ≤ l * l ∧ q = l * l - n ∧ E' = aput (aput E0 6 (I n)) 3 (I many3) ∧ H' = H0) (l * l) ⟨0, many2, by simp [opY], by omega, by omega, rfl, rfl⟩ ?_
        rintro q E' H' ⟨n, many3, hm3, hn, rfl, rfl, rfl⟩
        simp (config := { maxSteps := 1000000 }) (disch := (first | omega | (simp only [go_sem]; try omega))) only [go_sem, ↓GSplit_t, ↓GSplit_f, ↓GSplit_tf, ↓GSplit_ft, Nat.reduceAdd, Nat.reduceEqDiff, Nat.reduceLeDiff, Nat.reduceMul, Nat.reduceLT, reduceIte, Int.reduceToNat, bne_self_eq_false, beq_self_eq_true, w64_id, cast_succ, Bool.false_eq_true, Bool.and_true, Bool.true_and, Bool.and_false, Bool.false_and, Bool.not_not]
        repeat (first | (with_reducible refine SW.seq ?_) | (with_reducible refine SW.block ?_) | (with_reducible refine SW.rowC ?_) | (with_reducible refine SW.skip ?_) | (with_reducible refine SW.exit ?_) | (with_reducible intro _) | (with_reducible refine And.intro (by omega) ?_) | (simp (config := { maxSteps := 1000000 }) (disch := (first | omega | (simp only [go_sem]; try omega))) only [go_sem, ↓GSplit_t, ↓GSplit_f, ↓GSplit_tf, ↓GSplit_ft, Nat.reduceAdd, Nat.reduceEqDiff, Nat.reduceLeDiff, Nat.reduceMul, Nat.reduceLT, reduceIte, Int.reduceToNat, bne_self_eq_false, beq_self_eq_true, w64_id, cast_succ, Bool.false_eq_true, Bool.and_true, Bool.true_and, Bool.and_false, Bool.false_and, Bool.not_not, hll]))
        (first | refine SW.condD rfl (fun h3 => ?_) (fun h3 => ?_) | refine SW.condN rfl (fun h3 => ?_) (fun h3 => ?_) | refine SW.condNB rfl (fun h3 => ?_) (fun h3 => ?_) | refine SW.condB rfl (fun h3 => ?_) (fun h3 => ?_))
        · have hnl : n < l * l := by rw [il] at h3; omega
          have b3 := opY_len l P x y n
          have hdl : n / l < l := Nat.div_lt_of_lt_mul hnl
          have hml : n % l < l := Nat.mod_lt _ (by omega)
          have hd1 : ((n : Int).tdiv l) = ((n / l : Nat) : Int) := (Int.ofNat_tdiv n l).symm
          have hd2 : ((n : Int).tmod l) = ((n % l : Nat) : Int) := (Int.ofNat_tmod n l).symm
          have hcv := l16Covered_fn rows x y (n / l) (n % l) (fun row hm => by have := hrw row hm; omega)
          have hwd : w64 ((n / l : Nat) : Int) = ((n / l : Nat) : Int) := by
            clear hd1 hd2 hcv b3
            generalize n / l = k at hdl ⊢
            exact w64_id (by omega) (by omega)
          have hpn : opY l P x y (n + 1) = opY l P x y n ++ (if P x y (n / l) (n % l) then [] else [[(x : Int), y, (n / l : Nat), (n % l : Nat)]]) := by
            have := opY_succ l P x y (n / l) (n % l) hml
            rw [show n / l * l + n % l = n by rw [Nat.mul_comm]; exact Nat.div_add_mod n l] at this
            exact this
          rw [hP] at hcv
          repeat (first | (with_reducible refine SW.seq ?_) | (with_reducible refine SW.block ?_) | (with_reducible refine SW.rowC ?_) | (with_reducible refine SW.skip ?_) | (with_reducible refine SW.exit ?_) | (with_reducible refine PFn.use (hcv) ?_) | (with_reducible refine PFn.useq (hcv) ?_) | (with_reducible intro _) | (with_reducible refine And.intro (by omega) ?_) | (simp (config := { maxSteps := 1000000 }) (disch := (first | omega | (simp only [go_sem]; try omega))) only [go_sem, ↓GSplit_t, ↓GSplit_f, ↓GSplit_tf, ↓GSplit_ft, Nat.reduceAdd, Nat.reduceEqDiff, Nat.reduceLeDiff, Nat.reduceMul, Nat.reduceLT, reduceIte, Int.reduceToNat, bne_self_eq_false, beq_self_eq_true, w64_id, cast_succ, Bool.false_eq_true, Bool.and_true, Bool.true_and, Bool.and_false, Bool.false_and, Bool.not_not, hd1, hd2, hwd]))
          (first | refine SW.condD rfl (fun h4 => ?_) (fun h4 => ?_) | refine SW.condN rfl (fun h4 => ?_) (fun h4 => ?_) | refine SW.condNB rfl (fun h4 => ?_) (fun h4 => ?_) | refine SW.condB rfl (fun h4 => ?_) (fun h4 => ?_))
          · repeat (first | (with_reducible refine SW.seq ?_) | (with_reducible refine SW.block ?_) | (with_reducible refine SW.rowC ?_) | (with_reducible refine SW.skip ?_) | (with_reducible refine SW.exit ?_) | (with_reducible intro _) | (with_reducible refine And.intro (by omega) ?_) | (simp (config := { maxSteps := 1000000 }) (disch := (first | omega | (simp only [go_sem]; try omega))) only [go_sem, ↓GSplit_t, ↓GSplit_f, ↓GSplit_tf, ↓GSplit_ft, Nat.reduceAdd, Nat.reduceEqDiff, Nat.reduceLeDiff, Nat.reduceMul, Nat.reduceLT, reduceIte, Int.reduceToNat, bne_self_eq_false, beq_self_eq_true, w64_id, cast_succ, Bool.false_eq_true, Bool.and_true, Bool.true_and, Bool.and_false, Bool.false_and, Bool.not_not]))
            refine SLoop.next (l * l - (n + 1)) (by omega) ⟨n + 1, many3 + 1, by rw [hpn, if_neg (by simpa using h4), List.length_append, hm3]; simp; omega, by omega, rfl, ?_, rfl⟩
            simp [go_sem]
          · repeat (first | (with_reducible refine SW.seq ?_) | (with_reducible refine SW.block ?_) | (with_reducible refine SW.rowC ?_) | (with_reducible refine SW.skip ?_) | (with_reducible refine SW.exit ?_) | (with_reducible intro _) | (with_reducible refine And.intro (by omega) ?_) | (simp (config := { maxSteps := 1000000 }) (disch := (first | omega | (simp only [go_sem]; try omega))) only [go_sem, ↓GSplit_t, ↓GSplit_f, ↓GSplit_tf, ↓GSplit_ft, Nat.reduceAdd, Nat.reduceEqDiff, Nat.reduceLeDiff, Nat.reduceMul, Nat.reduceLT, reduceIte, Int.reduceToNat, bne_self_eq_false, beq_self_eq_true, w64_id, cast_succ, Bool.false_eq_true, Bool.and_true, Bool.true_and, Bool.and_false, Bool.false_and, Bool.not_not]))
            refine SLoop.next (l * l - (n + 1)) (by omega) ⟨n + 1, many3, by rw [hpn, if_pos (by simpa using h4), hm3]; simp, by omega, rfl, ?_, rfl⟩
            simp [go_sem]
        · have : n = l * l := by rw [il] at h3; omega
          subst this
          repeat (first | (with_reducible refine SW.seq ?_) | (with_reducible refine SW.block ?_) | (with_reducible refine SW.rowC ?_) | (with_reducible refine SW.skip ?_) | (with_reducible refine SW.exit ?_) | (with_reducible intro _) | (with_reducible refine And.intro (by omega) ?_) | (simp (config := { maxSteps := 1000000 }) (disch := (first | omega | (simp only [go_sem]; try omega))) only [go_sem, ↓GSplit_t, ↓GSplit_f, ↓GSplit_tf, ↓GSplit_ft, Nat.reduceAdd, Nat.reduceEqDiff, Nat.reduceLeDiff, Nat.reduceMul, Nat.reduceLT, reduceIte, Int.reduceToNat, bne_self_eq_false, beq_self_eq_true, w64_id, cast_succ, Bool.false_eq_true, Bool.and_true, Bool.true_and, Bool.and_false, Bool.false_and, Bool.not_not]))
          refine SLoop.next (c - (y + 1)) (by omega) ⟨y + 1, many3, by rw [opX_succ _ _ hy0, hm3, hm2, List.length_append]; omega, by omega, by omega, rfl, ?_, rfl⟩
          simp [go_sem]
      · have : y = c := by omega
        subst this
        repeat (first | (with_reducible refine SW.seq ?_) | (with_reducible refine SW.block ?_) | (with_reducible refine SW.rowC ?_) | (with_reducible refine SW.skip ?_) | (with_reducible refine SW.exit ?_) | (with_reducible intro _) | (with_reducible refine And.intro (by omega) ?_) | (simp (config := { maxSteps := 1000000 }) (disch := (first | omega | (simp only [go_sem]; try omega))) only [go_sem, ↓GSplit_t, ↓GSplit_f, ↓GSplit_tf, ↓GSplit_ft, Nat.reduceAdd, Nat.reduceEqDiff, Nat.reduceLeDiff, Nat.reduceMul, Nat.reduceLT, reduceIte, Int.reduceToNat, bne_self_eq_false, beq_self_eq_true, w64_id, cast_succ, Bool.false_eq_true, Bool.and_true, Bool.true_and, Bool.and_false, Bool.false_and, Bool.not_not]))
        refine SLoop.next (y - (x + 1)) (by omega) ⟨x + 1, many2, by rw [opTo_succ, hm2, hm, List.length_append], by omega, rfl, ?_, rfl⟩
        simp [go_sem]
    · have : x = c := by omega
      subst this
      repeat (first | (with_reducible refine SW.seq ?_) | (with_reducible refine SW.block ?_) | (with_reducible refine SW.rowC ?_) | (with_reducible refine SW.skip ?_) | (with_reducible refine SW.exit ?_) | (with_reducible intro _) | (with_reducible refine And.intro (by omega) ?_) | (simp (config := { maxSteps := 1000000 }) (disch := (first | omega | (simp only [go_sem]; try omega))) only [go_sem, ↓GSplit_t, ↓GSplit_f, ↓GSplit_tf, ↓GSplit_ft, Nat.reduceAdd, Nat.reduceEqDiff, Nat.reduceLeDiff, Nat.reduceMul, Nat.reduceLT, reduceIte, Int.reduceToNat, bne_self_eq_false, beq_self_eq_true, w64_id, cast_succ, Bool.false_eq_true, Bool.and_true, Bool.true_and, Bool.and_false, Bool.false_and, Bool.not_not]))
      refine SW.ret ?_; (try simp only [go_sem]); (first | refine FunPost.one ?_ | refine FunPost.two ?_ | refine FunPost.three ?_); (try simp (config := { maxSteps := 1000000 }) (disch := (first | omega | (simp only [go_sem]; try omega))) only [go_sem, ↓GSplit_t, ↓GSplit_f, ↓GSplit_tf, ↓GSplit_ft, Nat.reduceAdd, Nat.reduceEqDiff, Nat.reduceLeDiff, Nat.reduceMul, Nat.reduceLT, reduceIte, Int.reduceToNat, bne_self_eq_false, beq_self_eq_true, w64_id, cast_succ, Bool.false_eq_true, Bool.and_true, Bool.true_and, Bool.and_false, Bool.false_and, Bool.not_not]); (first | (with_reducible refine GR.drop ?_ ?_; (simp only [and_self, and_true, true_and, implies_true, Bel_lit, Bel_I, Bel_Bv, Bel_nil, Bel_junk, Bel_nm, Bel_pc, Bel_il, Bel_agg, Bel_tup, Bel_fn, Bel_el, all_mapI, all_mapB, all_mapS, all_nilB, all_consB, EB_nil, EB_cons, BB_nil, BB_cons, Bel_ilS, Bel_ilSS, Bel_ilB, List.getElem?_cons_zero, List.take_succ_cons, List.take_zero, keep_nil, keep_cons])) | refine GR.of ?_); refine ⟨?_, rfl⟩; (try with_reducible rfl)
      rw [hm]; rfl

theorem szArray_ok (H : List Blk) (l c : Int) (a : AV) (xss : List (List Int)) (left : Int) (ca : a.cell1 = true) (ha : RdSS H a xss) (h0 : -1 ≤ left) (h1 : left ≤ 4611686018427387904) :
    ACalls Try.prog f_laws_szArray [.agg [I l, I c, a], I left] H (fun r H' => (∃ z : Int, r = I z ∧ -1 ≤ z ∧ z ≤ left ∧ (0 ≤ z → z = left - xss.length - total xss)) ∧ H' = H) := by
  refine ACalls.introB s_laws_szArray (by simp) ?_; intro hB hA; unfold c_laws_szArray; simp (config := { maxSteps := 1000000 }) (disch := (first | omega | (simp only [go_sem]; try omega))) only [go_sem, ↓GSplit_t, ↓GSplit_f, ↓GSplit_tf, ↓GSplit_ft, Nat.reduceAdd, Nat.reduceEqDiff, Nat.reduceLeDiff, Nat.reduceMul, Nat.reduceLT, reduceIte, Int.reduceToNat, bne_self_eq_false, beq_self_eq_true, w64_id, cast_succ, Bool.false_eq_true, Bool.and_true, Bool.true_and, Bool.and_false, Bool.false_and, Bool.not_not]
  repeat (first | (with_reducible refine SW.seq ?_) | (with_reducible refine SW.block ?_) | (with_reducible refine SW.rowC ?_) | (with_reducible refine SW.skip ?_) | (with_reducible refine SW.exit ?_) | (with_reducible intro _) | (with_reducible refine And.intro (by omega) ?_) | (simp (config := { maxSteps := 1000000 }) (disch := (first | omega | (simp only [go_sem]; try omega))) only [go_sem, ↓GSplit_t, ↓GSplit_f, ↓GSplit_tf, ↓GSplit_ft, Nat.reduceAdd, Nat.reduceEqDiff, Nat.reduceLeDiff, Nat.reduceMul, Nat.reduceLT, reduceIte, Int.reduceToNat, bne_self_eq_false, beq_self_eq_true, w64_id, cast_succ, Bool.false_eq_true, Bool.and_true, Bool.true_and, Bool.and_false, Bool.false_and, Bool.not_not, ca]))
  refine (szInt64SS_ok _ a xss left (ha.append _) h0 h1).mono ?_
  rintro r H' ⟨⟨z, rfl, g1, g2, g3⟩, rfl⟩
  repeat (first | (with_reducible refine SW.seq ?_) | (with_reducible refine SW.block ?_) | (with_reducible refine SW.rowC ?_) | (with_reducible refine SW.skip ?_) | (with_reducible refine SW.exit ?_) | (with_reducible intro _) | (with_reducible refine And.intro (by omega) ?_) | (simp (config := { maxSteps := 1000000 }) (disch := (first | omega | (simp only [go_sem]; try omega))) only [go_sem, ↓GSplit_t, ↓GSplit_f, ↓GSplit_tf, ↓GSplit_ft, Nat.reduceAdd, Nat.reduceEqDiff, Nat.reduceLeDiff, Nat.reduceMul, Nat.reduceLT, reduceIte, Int.reduceToNat, bne_self_eq_false, beq_self_eq_true, w64_id, cast_succ, Bool.false_eq_true, Bool.and_true, Bool.true_and, Bool.and_false, Bool.false_and, Bool.not_not]))
  (first | refine SW.condD rfl (fun h => ?_) (fun h => ?_) | refine SW.condN rfl (fun h => ?_) (fun h => ?_) | refine SW.condNB rfl (fun h => ?_) (fun h => ?_) | refine SW.condB rfl (fun h => ?_) (fun h => ?_))
  · repeat (first | (with_reducible refine SW.seq ?_) | (with_reducible refine SW.block ?_) | (with_reducible refine SW.rowC ?_) | (with_reducible refine SW.skip ?_) | (with_reducible refine SW.exit ?_) | (with_reducible intro _) | (with_reducible refine And.intro (by omega) ?_) | (simp (config := { maxSteps := 1000000 }) (disch := (first | omega | (simp only [go_sem]; try omega))) only [go_sem, ↓GSplit_t, ↓GSplit_f, ↓GSplit_tf, ↓GSplit_ft, Nat.reduceAdd, Nat.reduceEqDiff, Nat.reduceLeDiff, Nat.reduceMul, Nat.reduceLT, reduceIte, Int.reduceToNat, bne_self_eq_false, beq_self_eq_true, w64_id, cast_succ, Bool.false_eq_true, Bool.and_true, Bool.true_and, Bool.and_false, Bool.false_and, Bool.not_not]))
    refine SW.ret ?_; (try simp only [go_sem]); (first | refine FunPost.one ?_ | refine FunPost.two ?_ | refine FunPost.three ?_); (try simp (config := { maxSteps := 1000000 }) (disch := (first | omega | (simp only [go_sem]; try omega))) only [go_sem, ↓GSplit_t, ↓GSplit_f, ↓GSplit_tf, ↓GSplit_ft, Nat.reduceAdd, Nat.reduceEqDiff, Nat.reduceLeDiff, Nat.reduceMul, Nat.reduceLT, reduceIte, Int.reduceToNat, bne_self_eq_false, beq_self_eq_true, w64_id, cast_succ, Bool.false_eq_true, Bool.and_true, Bool.true_and, Bool.and_false, Bool.false_and, Bool.not_not]); (first | (with_reducible refine GR.drop ?_ ?_; (simp only [and_self, and_true, true_and, implies_true, Bel_lit, Bel_I, Bel_Bv, Bel_nil, Bel_junk, Bel_nm, Bel_pc, Bel_il, Bel_agg, Bel_tup, Bel_fn, Bel_el, all_mapI, all_mapB, all_mapS, all_nilB, all_consB, EB_nil, EB_cons, BB_nil, BB_cons, Bel_ilS, Bel_ilSS, Bel_ilB, List.getElem?_cons_zero, List.take_succ_cons, List.take_zero, keep_nil, keep_cons])) | refine GR.of ?_); refine ⟨?_, rfl⟩; (try with_reducible rfl)
    exact ⟨-1, rfl, by omega, by omega, fun h => by omega⟩
  · repeat (first | (with_reducible refine SW.seq ?_) | (with_reducible refine SW.block ?_) | (with_reducible refine SW.rowC ?_) | (with_reducible refine SW.skip ?_) | (with_reducible refine SW.exit ?_) | (with_reducible intro _) | (with_reducible refine And.intro (by omega) ?_) | (simp (config := { maxSteps := 1000000 }) (disch := (first | omega | (simp only [go_sem]; try omega))) only [go_sem, ↓GSplit_t, ↓GSplit_f, ↓GSplit_tf, ↓GSplit_ft, Nat.reduceAdd, Nat.reduceEqDiff, Nat.reduceLeDiff, Nat.reduceMul, Nat.reduceLT, reduceIte, Int.reduceToNat, bne_self_eq_false, beq_self_eq_true, w64_id, cast_succ, Bool.false_eq_true, Bool.and_true, Bool.true_and, Bool.and_false, Bool.false_and, Bool.not_not]))
    refine SW.ret ?_; (try simp only [go_sem]); (first | refine FunPost.one ?_ | refine FunPost.two ?_ | refine FunPost.three ?_); (try simp (config := { maxSteps := 1000000 }) (disch := (first | omega | (simp only [go_sem]; try omega))) only [go_sem, ↓GSplit_t, ↓GSplit_f, ↓GSplit_tf, ↓GSplit_ft, Nat.reduceAdd, Nat.reduceEqDiff, Nat.reduceLeDiff, Nat.reduceMul, Nat.reduceLT, reduceIte, Int.reduceToNat, bne_self_eq_false, beq_self_eq_true, w64_id, cast_succ, Bool.false_eq_true, Bool.and_true, Bool.true_and, Bool.and_false, Bool.false_and, Bool.not_not]); (first | (with_reducible refine GR.drop ?_ ?_; (simp only [and_self, and_true, true_and, implies_true, Bel_lit, Bel_I, Bel_Bv, Bel_nil, Bel_junk, Bel_nm, Bel_pc, Bel_il, Bel_agg, Bel_tup, Bel_fn, Bel_el, all_mapI, all_mapB, all_mapS, all_nilB, all_consB, EB_nil, EB_cons, BB_nil, BB_cons, Bel_ilS, Bel_ilSS, Bel_ilB, List.getElem?_cons_zero, List.take_succ_cons, List.take_zero, keep_nil, keep_cons])) | refine GR.of ?_); refine ⟨?_, rfl⟩; (try with_reducible rfl)
    exact ⟨z, rfl, g1, g2, g3⟩

theorem toArray_fn (l c : Int) (xss : List (List Int)) (hs : xss.length ≤ 1073741824) (hs' : ∀ xs ∈ xss, xs.length ≤ 1073741824) : PFn Try.prog f_laws_toArray [.agg [I l, I c, ilSS xss]] (.agg [I l, I c, ilSS xss]) := by
  intro H; refine ACalls.introB s_laws_toArray (by simp) ?_; intro hB hA; unfold c_laws_toArray; simp (config := { maxSteps := 1000000 }) (disch := (first | omega | (simp only [go_sem]; try omega))) only [go_sem, ↓GSplit_t, ↓GSplit_f, ↓GSplit_tf, ↓GSplit_ft, Nat.reduceAdd, Nat.reduceEqDiff, Nat.reduceLeDiff, Nat.reduceMul, Nat.reduceLT, reduceIte, Int.reduceToNat, bne_self_eq_false, beq_self_eq_true, w64_id, cast_succ, Bool.false_eq_true, Bool.and_true, Bool.true_and, Bool.and_false, Bool.false_and, Bool.not_not]
  repeat (first | (with_reducible refine SW.seq ?_) | (with_reducible refine SW.block ?_) | (with_reducible refine SW.rowC ?_) | (with_reducible refine SW.skip ?_) | (with_reducible refine SW.exit ?_) | (with_reducible refine PFn.use (toInt64SS_fn xss hs hs') ?_) | (with_reducible refine PFn.useq (toInt64SS_fn xss hs hs') ?_) | (with_reducible intro _) | (with_reducible refine And.intro (by omega) ?_) | (simp (config := { maxSteps := 1000000 }) (disch := (first | omega | (simp only [go_sem]; try omega))) only [go_sem, ↓GSplit_t, ↓GSplit_f, ↓GSplit_tf, ↓GSplit_ft, Nat.reduceAdd, Nat.reduceEqDiff, Nat.reduceLeDiff, Nat.reduceMul, Nat.reduceLT, reduceIte, Int.reduceToNat, bne_self_eq_false, beq_self_eq_true, w64_id, cast_succ, Bool.false_eq_true, Bool.and_true, Bool.true_and, Bool.and_false, Bool.false_and, Bool.not_not]))
  refine SW.ret ?_
  refine FunPost.cell (cs := [I l, I c, ilSS xss]) (by simp [go_sem, acells]) ?_
  refine GR.drop ?_ ?_
  · (simp only [go_sem, Nat.reduceAdd, Nat.reduceEqDiff, reduceIte, and_self, and_true, true_and, implies_true, Bel_lit, Bel_I, Bel_Bv, Bel_nil, Bel_junk, Bel_nm, Bel_pc, Bel_il, Bel_agg, Bel_tup, Bel_fn, Bel_el, all_mapI, all_mapB, all_mapS, all_nilB, all_consB, EB_nil, EB_cons, BB_nil, BB_cons, Bel_ilS, Bel_ilSS, Bel_ilB, List.getElem?_cons_zero, List.take_succ_cons, List.take_zero, keep_nil, keep_cons, and_true, true_and]; try omega)
  · exact ⟨rfl, rfl⟩
theorem eqArray_fn2 (l c : Int) (xss : List (List Int)) : PFn Try.prog f_laws_eqArray [.agg [I l, I c, ilSS xss], .agg [I l, I c, ilSS xss]] (Bv true) := by
  intro H; refine ACalls.introB s_laws_eqArray (by simp) ?_; intro hB hA; unfold c_laws_eqArray; simp (config := { maxSteps := 1000000 }) (disch := (first | omega | (simp only [go_sem]; try omega))) only [go_sem, ↓GSplit_t, ↓GSplit_f, ↓GSplit_tf, ↓GSplit_ft, Nat.reduceAdd, Nat.reduceEqDiff, Nat.reduceLeDiff, Nat.reduceMul, Nat.reduceLT, reduceIte, Int.reduceToNat, bne_self_eq_false, beq_self_eq_true, w64_id, cast_succ, Bool.false_eq_true, Bool.and_true, Bool.true_and, Bool.and_false, Bool.false_and, Bool.not_not]
  repeat (first | (with_reducible refine SW.seq ?_) | (with_reducible refine SW.block ?_) | (with_reducible refine SW.rowC ?_) | (with_reducible refine SW.skip ?_) | (with_reducible refine SW.exit ?_) | (with_reducible refine PFn.use (eqInt64SS_fn2 xss) ?_) | (with_reducible refine PFn.useq (eqInt64SS_fn2 xss) ?_) | (with_reducible intro _) | (with_reducible refine And.intro (by omega) ?_) | (simp (config := { maxSteps := 1000000 }) (disch := (first | omega | (simp only [go_sem]; try omega))) only [go_sem, ↓GSplit_t, ↓GSplit_f, ↓GSplit_tf, ↓GSplit_ft, Nat.reduceAdd, Nat.reduceEqDiff, Nat.reduceLeDiff, Nat.reduceMul, Nat.reduceLT, reduceIte, Int.reduceToNat, bne_self_eq_false, beq_self_eq_true, w64_id, cast_succ, Bool.false_eq_true, Bool.and_true, Bool.true_and, Bool.and_false, Bool.false_and, Bool.not_not]))
  refine SW.condF rfl ?_
  repeat (first | (with_reducible refine SW.seq ?_) | (with_reducible refine SW.block ?_) | (with_reducible refine SW.rowC ?_) | (with_reducible refine SW.skip ?_) | (with_reducible refine SW.exit ?_) | (with_reducible refine PFn.use (eqInt64SS_fn2 xss) ?_) | (with_reducible refine PFn.useq (eqInt64SS_fn2 xss) ?_) | (with_reducible intro _) | (with_reducible refine And.intro (by omega) ?_) | (simp (config := { maxSteps := 1000000 }) (disch := (first | omega | (simp only [go_sem]; try omega))) only [go_sem, ↓GSplit_t, ↓GSplit_f, ↓GSplit_tf, ↓GSplit_ft, Nat.reduceAdd, Nat.reduceEqDiff, Nat.reduceLeDiff, Nat.reduceMul, Nat.reduceLT, reduceIte, Int.reduceToNat, bne_self_eq_false, beq_self_eq_true, w64_id, cast_succ, Bool.false_eq_true, Bool.and_true, Bool.true_and, Bool.and_false, Bool.false_and, Bool.not_not]))
  refine SW.condF rfl ?_
  repeat (first | (with_reducible refine SW.seq ?_) | (with_reducible refine SW.block ?_) | (with_reducible refine SW.rowC ?_) | (with_reducible refine SW.skip ?_) | (with_reducible refine SW.exit ?_) | (with_reducible refine PFn.use (eqInt64SS_fn2 xss) ?_) | (with_reducible refine PFn.useq (eqInt64SS_fn2 xss) ?_) | (with_reducible intro _) | (with_reducible refine And.intro (by omega) ?_) | (simp (config := { maxSteps := 1000000 }) (disch := (first | omega | (simp only [go_sem]; try omega))) only [go_sem, ↓GSplit_t, ↓GSplit_f, ↓GSplit_tf, ↓GSplit_ft, Nat.reduceAdd, Nat.reduceEqDiff, Nat.reduceLeDiff, Nat.reduceMul, Nat.reduceLT, reduceIte, Int.reduceToNat, bne_self_eq_false, beq_self_eq_true, w64_id, cast_succ, Bool.false_eq_true, Bool.and_true, Bool.true_and, Bool.and_false, Bool.false_and, Bool.not_not]))
  refine SW.condF rfl ?_
  repeat (first | (with_reducible refine SW.seq ?_) | (with_reducible refine SW.block ?_) | (with_reducible refine SW.rowC ?_) | (with_reducible refine SW.skip ?_) | (with_reducible refine SW.exit ?_) | (with_reducible intro _) | (with_reducible refine And.intro (by omega) ?_) | (simp (config := { maxSteps := 1000000 }) (disch := (first | omega | (simp only [go_sem]; try omega))) only [go_sem, ↓GSplit_t, ↓GSplit_f, ↓GSplit_tf, ↓GSplit_ft, Nat.reduceAdd, Nat.reduceEqDiff, Nat.reduceLeDiff, Nat.reduceMul, Nat.reduceLT, reduceIte, Int.reduceToNat, bne_self_eq_false, beq_self_eq_true, w64_id, cast_succ, Bool.false_eq_true, Bool.and_true, Bool.true_and, Bool.and_false, Bool.false_and, Bool.not_not]))
  refine SW.ret ?_; (try simp only [go_sem]); (first | refine FunPost.one ?_ | refine FunPost.two ?_ | refine FunPost.three ?_); (try simp (config := { maxSteps := 1000000 }) (disch := (first | omega | (simp only [go_sem]; try omega))) only [go_sem, ↓GSplit_t, ↓GSplit_f, ↓GSplit_tf, ↓GSplit_ft, Nat.reduceAdd, Nat.reduceEqDiff, Nat.reduceLeDiff, Nat.reduceMul, Nat.reduceLT, reduceIte, Int.reduceToNat, bne_self_eq_false, beq_self_eq_true, w64_id, cast_succ, Bool.false_eq_true, Bool.and_true, Bool.true_and, Bool.and_false, Bool.false_and, Bool.not_not]); (first | (with_reducible refine GR.drop ?_ ?_; (simp only [and_self, and_true, true_and, implies_true, Bel_lit, Bel_I, Bel_Bv, Bel_nil, Bel_junk, Bel_nm, Bel_pc, Bel_il, Bel_agg, Bel_tup, Bel_fn, Bel_el, all_mapI, all_mapB, all_mapS, all_nilB, all_consB, EB_nil, EB_cons, BB_nil, BB_cons, Bel_ilS, Bel_ilSS, Bel_ilB, List.getElem?_cons_zero, List.take_succ_cons, List.take_zero, keep_nil, keep_cons])) | refine GR.of ?_); refine ⟨?_, rfl⟩; (try with_reducible rfl)

theorem lawUncovered_ok (H : List Blk) (l c : Int) (xss : List (List Int)) : ACalls Try.prog f_laws_FnExactUncoveredPairs [.agg [I l, I c, ilSS xss]] H (fun r _ => r = Bv true) := by
  refine ACalls.introB s_laws_FnExactUncoveredPairs (by simp) ?_; intro hB hA; unfold c_laws_FnExactUncoveredPairs; simp (config := { maxSteps := 1000000 }) (disch := (first | omega | (simp only [go_sem]; try omega))) only [go_sem, ↓GSplit_t, ↓GSplit_f, ↓GSplit_tf, ↓GSplit_ft, Nat.reduceAdd, Nat.reduceEqDiff, Nat.reduceLeDiff, Nat.reduceMul, Nat.reduceLT, reduceIte, Int.reduceToNat, bne_self_eq_false, beq_self_eq_true, w64_id, cast_succ, Bool.false_eq_true, Bool.and_true, Bool.true_and, Bool.and_false, Bool.false_and, Bool.not_not]
  repeat (first | (with_reducible refine SW.seq ?_) | (with_reducible refine SW.block ?_) | (with_reducible refine SW.rowC ?_) | (with_reducible refine SW.skip ?_) | (with_reducible refine SW.exit ?_) | (with_reducible intro _) | (with_reducible refine And.intro (by omega) ?_) | (simp (config := { maxSteps := 1000000 }) (disch := (first | omega | (simp only [go_sem]; try omega))) only [go_sem, ↓GSplit_t, ↓GSplit_f, ↓GSplit_tf, ↓GSplit_ft, Nat.reduceAdd, Nat.reduceEqDiff, Nat.reduceLeDiff, Nat.reduceMul, Nat.reduceLT, reduceIte, Int.reduceToNat, bne_self_eq_false, beq_self_eq_true, w64_id, cast_succ, Bool.false_eq_true, Bool.and_true, Bool.true_and, Bool.and_false, Bool.false_and, Bool.not_not]))
  refine (szArray_ok _ l c _ xss _ rfl (rd_ilSS _ _) (by omega) (by omega)).mono ?_
  rintro r H' ⟨⟨z, rfl, g1, g2, g3⟩, rfl⟩
  repeat (first | (with_reducible refine SW.seq ?_) | (with_reducible refine SW.block ?_) | (with_reducible refine SW.rowC ?_) | (with_reducible refine SW.skip ?_) | (with_reducible refine SW.exit ?_) | (with_reducible intro _) | (with_reducible refine And.intro (by omega) ?_) | (simp (config := { maxSteps := 1000000 }) (disch := (first | omega | (simp only [go_sem]; try omega))) only [go_sem, ↓GSplit_t, ↓GSplit_f, ↓GSplit_tf, ↓GSplit_ft, Nat.reduceAdd, Nat.reduceEqDiff, Nat.reduceLeDiff, Nat.reduceMul, Nat.reduceLT, reduceIte, Int.reduceToNat, bne_self_eq_false, beq_self_eq_true, w64_id, cast_succ, Bool.false_eq_true, Bool.and_true, Bool.true_and, Bool.and_false, Bool.false_and, Bool.not_not]))
  (first | refine SW.condD rfl (fun h2 => ?_) (fun h2 => ?_) | refine SW.condN rfl (fun h2 => ?_) (fun h2 => ?_) | refine SW.condNB rfl (fun h2 => ?_) (fun h2 => ?_) | refine SW.condB rfl (fun h2 => ?_) (fun h2 => ?_))
  · repeat (first | (with_reducible refine SW.seq ?_) | (with_reducible refine SW.block ?_) | (with_reducible refine SW.rowC ?_) | (with_reducible refine SW.skip ?_) | (with_reducible refine SW.exit ?_) | (with_reducible intro _) | (with_reducible refine And.intro (by omega) ?_) | (simp (config := { maxSteps := 1000000 }) (disch := (first | omega | (simp only [go_sem]; try omega))) only [go_sem, ↓GSplit_t, ↓GSplit_f, ↓GSplit_tf, ↓GSplit_ft, Nat.reduceAdd, Nat.reduceEqDiff, Nat.reduceLeDiff, Nat.reduceMul, Nat.reduceLT, reduceIte, Int.reduceToNat, bne_self_eq_false, beq_self_eq_true, w64_id, cast_succ, Bool.false_eq_true, Bool.and_true, Bool.true_and, Bool.and_false, Bool.false_and, Bool.not_not]))
    refine SW.ret ?_; (try simp only [go_sem]); (first | refine FunPost.one ?_ | refine FunPost.two ?_ | refine FunPost.three ?_); (try simp (config := { maxSteps := 1000000 }) (disch := (first | omega | (simp only [go_sem]; try omega))) only [go_sem, ↓GSplit_t, ↓GSplit_f, ↓GSplit_tf, ↓GSplit_ft, Nat.reduceAdd, Nat.reduceEqDiff, Nat.reduceLeDiff, Nat.reduceMul, Nat.reduceLT, reduceIte, Int.reduceToNat, bne_self_eq_false, beq_self_eq_true, w64_id, cast_succ, Bool.false_eq_true, Bool.and_true, Bool.true_and, Bool.and_false, Bool.false_and, Bool.not_not])
    exact GR.of rfl
  have hsx := small_rows (by omega) (g3 (by omega)) (by omega)
  have t1 := toArray_fn l c xss hsx.1 hsx.2
  repeat (first | (with_reducible refine SW.seq ?_) | (with_reducible refine SW.block ?_) | (with_reducible refine SW.rowC ?_) | (with_reducible refine SW.skip ?_) | (with_reducible refine SW.exit ?_) | (with_reducible refine PFn.use (t1) ?_) | (with_reducible refine PFn.useq (t1) ?_) | (with_reducible refine PFn.use (specUncovered_fn l c xss) ?_) | (with_reducible refine PFn.useq (specUncovered_fn l c xss) ?_) | (with_reducible refine PFn.use (UncoveredPairs_fn l c xss) ?_) | (with_reducible refine PFn.useq (UncoveredPairs_fn l c xss) ?_) | (with_reducible intro _) | (with_reducible refine And.intro (by omega) ?_) | (simp (config := { maxSteps := 1000000 }) (disch := (first | omega | (simp only [go_sem]; try omega))) only [go_sem, ↓GSplit_t, ↓GSplit_f, ↓GSplit_tf, ↓GSplit_ft, Nat.reduceAdd, Nat.reduceEqDiff, Nat.reduceLeDiff, Nat.reduceMul, Nat.reduceLT, reduceIte, Int.reduceToNat, bne_self_eq_false, beq_self_eq_true, w64_id, cast_succ, Bool.false_eq_true, Bool.and_true, Bool.true_and, Bool.and_false, Bool.false_and, Bool.not_not]))
  refine SW.condF rfl ?_
  repeat (first | (with_reducible refine SW.seq ?_) | (with_reducible refine SW.block ?_) | (with_reducible refine SW.rowC ?_) | (with_reducible refine SW.skip ?_) | (with_reducible refine SW.exit ?_) | (with_reducible refine PFn.use (t1) ?_) | (with_reducible refine PFn.useq (t1) ?_) | (with_reducible refine PFn.use (eqArray_fn2 l c xss) ?_) | (with_reducible refine PFn.useq (eqArray_fn2 l c xss) ?_) | (with_reducible intro _) | (with_reducible refine And.intro (by omega) ?_) | (simp (config := { maxSteps := 1000000 }) (disch := (first | omega | (simp only [go_sem]; try omega))) only [go_sem, ↓GSplit_t, ↓GSplit_f, ↓GSplit_tf, ↓GSplit_ft, Nat.reduceAdd, Nat.reduceEqDiff, Nat.reduceLeDiff, Nat.reduceMul, Nat.reduceLT, reduceIte, Int.reduceToNat, bne_self_eq_false, beq_self_eq_true, w64_id, cast_succ, Bool.false_eq_true, Bool.and_true, Bool.true_and, Bool.and_false, Bool.false_and, Bool.not_not]))
  refine SW.condF rfl ?_
  repeat (first | (with_reducible refine SW.seq ?_) | (with_reducible refine SW.block ?_) | (with_reducible refine SW.rowC ?_) | (with_reducible refine SW.skip ?_) | (with_reducible refine SW.exit ?_) | (with_reducible intro _) | (with_reducible refine And.intro (by omega) ?_) | (simp (config := { maxSteps := 1000000 }) (disch := (first | omega | (simp only [go_sem]; try omega))) only [go_sem, ↓GSplit_t, ↓GSplit_f, ↓GSplit_tf, ↓GSplit_ft, Nat.reduceAdd, Nat.reduceEqDiff, Nat.reduceLeDiff, Nat.reduceMul, Nat.reduceLT, reduceIte, Int.reduceToNat, bne_self_eq_false, beq_self_eq_true, w64_id, cast_succ, Bool.false_eq_true, Bool.and_true, Bool.true_and, Bool.and_false, Bool.false_and, Bool.not_not]))
  refine SW.ret ?_; (try simp only [go_sem]); (first | refine FunPost.one ?_ | refine FunPost.two ?_ | refine FunPost.three ?_); (try simp (config := { maxSteps := 1000000 }) (disch := (first | omega | (simp only [go_sem]; try omega))) only [go_sem, ↓GSplit_t, ↓GSplit_f, ↓GSplit_tf, ↓GSplit_ft, Nat.reduceAdd, Nat.reduceEqDiff, Nat.reduceLeDiff, Nat.reduceMul, Nat.reduceLT, reduceIte, Int.reduceToNat, bne_self_eq_false, beq_self_eq_true, w64_id, cast_succ, Bool.false_eq_true, Bool.and_true, Bool.true_and, Bool.and_false, Bool.false_and, Bool.not_not])
  exact GR.of rfl
end Go.Proofs.Ytmgbglekgigkmaa
