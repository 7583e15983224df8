/- Indices of designs. -/
import Derived.Test.YtkpohapopokahaaProg
import Derived.KernelRfl
import Derived.Test.YtkpohapopokahaaK23
import Derived.Test.YtkpohapopokahaaK22
set_option linter.unusedSimpArgs false
set_option linter.unusedVariables false
set_option maxHeartbeats 4000000
namespace Go.Proofs.Ytkpohapopokahaa
open Go.Av

/-! The abstract code of functions, printed by program and tied to the program by the kernel. -/
/-- loop.example/g00920/spec.l26Index -/
abbrev f_spec_l26Index : Nat := 92
def c_spec_l26Index : SC :=
 .seq (.reg [
     ⟨(some 4), .mv (.const (.int .i64 0)), none⟩] [0, 1])
 (.seq (.reg [
     ⟨(some 11), .mv (.tmp 0), none⟩,
     ⟨(some 12), .nilc (.tmp 11), none⟩,
     ⟨(some 13), .faddr 0 (.tmp 12), none⟩,
     ⟨(some 14), .load 1 false (.tmp 13), none⟩,
     ⟨(some 15), .mv (.tmp 1), none⟩,
     ⟨(some 16), .call 106 [(.tmp 14), (.tmp 15)], none⟩,
     ⟨(some 5), .mv (.tmp 16), none⟩] [0, 1, 5])
 (.seq (.reg [
     ⟨(some 6), .mv (.const (.int .i64 0)), none⟩] [0, 1, 5, 6])
 (.seq (.seq (.reg [
     ⟨(some 7), .mv (.const (.int .i64 0)), none⟩] [0, 1, 5, 6, 7])
 (.block 0 (.loop [0, 1, 5, 6, 7]
   (.seq (.seq (.reg [
       ⟨(some 17), .mv (.tmp 7), none⟩,
       ⟨(some 18), .mv (.tmp 5), none⟩,
       ⟨(some 19), .bin .lss (.tmp 17) (.tmp 18), none⟩] [0, 1, 5, 6, 7, 19])
   (.cond (.tmp 19)
    (.skip)
    (.exit 0)))
   (.seq (.block 1 (.seq (.reg [
        ⟨(some 22), .mv (.tmp 0), none⟩,
        ⟨(some 23), .nilc (.tmp 22), none⟩,
        ⟨(some 24), .faddr 0 (.tmp 23), none⟩,
        ⟨(some 25), .load 1 false (.tmp 24), none⟩,
        ⟨(some 26), .mv (.tmp 1), none⟩,
        ⟨(some 27), .mv (.tmp 7), none⟩,
        ⟨(some 28), .call 107 [(.tmp 25), (.tmp 26), (.tmp 27)], none⟩,
        ⟨(some 8), .mv (.tmp 28), none⟩] [0, 1, 5, 6, 7, 8])
    (.seq (.reg [
        ⟨(some 9), .mv (.const (.int .i64 0)), none⟩] [0, 1, 5, 6, 7, 8, 9])
    (.seq (.seq (.reg [
        ⟨(some 10), .mv (.const (.int .i64 0)), none⟩] [0, 1, 5, 6, 7, 8, 9, 10])
    (.block 2 (.loop [0, 1, 5, 6, 7, 8, 9, 10]
      (.seq (.seq (.reg [
          ⟨(some 29), .mv (.tmp 10), none⟩,
          ⟨(some 30), .mv (.tmp 0), none⟩,
          ⟨(some 31), .nilc (.tmp 30), none⟩,
          ⟨(some 32), .faddr 1 (.tmp 31), none⟩,
          ⟨(some 33), .load 1 false (.tmp 32), none⟩,
          ⟨(some 34), .len (.tmp 33), none⟩,
          ⟨(some 35), .bin .lss (.tmp 29) (.tmp 34), none⟩] [0, 1, 5, 6, 7, 8, 9, 10, 35])
      (.cond (.tmp 35)
       (.skip)
       (.exit 2)))
      (.seq (.block 3 (.seq (.reg [
           ⟨(some 38), .mv (.tmp 8), none⟩,
           ⟨(some 39), .mv (.tmp 0), none⟩,
           ⟨(some 40), .nilc (.tmp 39), none⟩,
           ⟨(some 41), .faddr 1 (.tmp 40), none⟩,
           ⟨(some 42), .load 1 false (.tmp 41), none⟩,
           ⟨(some 43), .mv (.tmp 10), none⟩,
           ⟨(some 44), .iaddr 1 (.tmp 42) (.tmp 43), none⟩,
           ⟨(some 45), .load 1 false (.tmp 44), none⟩,
           ⟨(some 46), .call 132 [(.tmp 38), (.tmp 45)], none⟩] [0, 1, 5, 6, 7, 8, 9, 10, 46])
       (.cond (.tmp 46)
        (.reg [
            ⟨(some 47), .mv (.tmp 9), none⟩,
            ⟨(some 48), .bin .add (.tmp 47) (.const (.int .i64 1)), none⟩,
            ⟨(some 9), .mv (.tmp 48), none⟩] [0, 1, 5, 6, 7, 8, 9, 10])
        (.skip))))
      (.reg [
          ⟨(some 36), .mv (.tmp 10), none⟩,
          ⟨(some 37), .bin .add (.tmp 36) (.const (.int .i64 1)), none⟩,
          ⟨(some 10), .mv (.tmp 37), none⟩] [0, 1, 5, 6, 7, 8, 9, 10]))))))
    (.seq (.seq (.reg [
        ⟨(some 49), .mv (.tmp 7), none⟩,
        ⟨(some 50), .bin .gtr (.tmp 49) (.const (.int .i64 0)), none⟩,
        ⟨(some 51), .mv (.tmp 50), none⟩,
        ⟨(some 52), .mv (.tmp 9), (some (51, true))⟩,
        ⟨(some 53), .mv (.tmp 6), (some (51, true))⟩,
        ⟨(some 54), .bin .neq (.tmp 52) (.tmp 53), (some (51, true))⟩,
        ⟨(some 55), .pick (.tmp 51) (.tmp 54) (.const (.bool false)), none⟩] [0, 1, 5, 7, 9, 55])
    (.cond (.tmp 55)
     (.seq (.reg [
         ⟨(some 4), .mv (.const (.int .i64 0)), none⟩] [4])
     (.ret))
     (.skip)))
    (.reg [
        ⟨(some 56), .mv (.tmp 9), none⟩,
        ⟨(some 6), .mv (.tmp 56), none⟩] [0, 1, 5, 6, 7]))))))
   (.reg [
       ⟨(some 20), .mv (.tmp 7), none⟩,
       ⟨(some 21), .bin .add (.tmp 20) (.const (.int .i64 1)), none⟩,
       ⟨(some 7), .mv (.tmp 21), none⟩] [0, 1, 5, 6, 7]))))))
 (.seq (.reg [
     ⟨(some 57), .mv (.tmp 6), none⟩,
     ⟨(some 4), .mv (.tmp 57), none⟩] [4])
 (.ret)))))
theorem s_spec_l26Index : stripF Try.prog 92 [[0, 1], [0, 1, 5], [0, 1, 5, 6], [0, 1, 5, 6, 7], [0, 1, 5, 6, 7], [0, 1, 5, 6, 7, 19], [0, 1, 5, 6, 7, 8], [0, 1, 5, 6, 7, 8, 9], [0, 1, 5, 6, 7, 8, 9, 10], [0, 1, 5, 6, 7, 8, 9, 10], [0, 1, 5, 6, 7, 8, 9, 10, 35], [0, 1, 5, 6, 7, 8, 9, 10, 46], [0, 1, 5, 6, 7, 8, 9, 10], [0, 1, 5, 6, 7, 8, 9, 10], [0, 1, 5, 7, 9, 55], [4], [0, 1, 5, 6, 7], [0, 1, 5, 6, 7], [4]] = some (c_spec_l26Index, [.tmp 4], 58) := by kernel_rfl

/-- loop.example/g00920/impl.tIndex -/
abbrev f_impl_tIndex : Nat := 93
def c_impl_tIndex : SC :=
 .seq (.reg [
     ⟨(some 2), .box 48 (.tmp 0), none⟩,
     ⟨(some 4), .mv (.const (.int .i64 0)), none⟩] [1, 2])
 (.seq (.reg [
     ⟨(some 5), .mv (.const (.int .i64 (-1))), none⟩] [1, 2, 5])
 (.seq (.seq (.reg [
     ⟨(some 11), .faddr 0 (.tmp 2), none⟩,
     ⟨(some 12), .load 1 false (.tmp 11), none⟩,
     ⟨(some 13), .mv (.tmp 1), none⟩,
     ⟨(some 14), .call 68 [(.tmp 12), (.tmp 13)], none⟩,
     ⟨(some 15), .len (.tmp 14), none⟩,
     ⟨(some 16), .mv (.const (.int .i64 0)), none⟩] [2, 5, 14, 15, 16])
 (.block 0 (.loop [2, 5, 14, 15, 16]
   (.seq (.reg [
       ⟨(some 17), .bin .lss (.tmp 16) (.tmp 15), none⟩] [2, 5, 14, 15, 16, 17])
   (.seq (.cond (.tmp 17)
    (.skip)
    (.exit 0))
   (.seq (.block 1 (.seq (.reg [
        ⟨(some 18), .iaddr 1 (.tmp 14) (.tmp 16), none⟩,
        ⟨(some 19), .load 1 false (.tmp 18), none⟩,
        ⟨(some 7), .mv (.tmp 19), none⟩] [2, 5, 7, 14, 15, 16])
    (.seq (.reg [
        ⟨(some 8), .mv (.const (.int .i64 0)), none⟩] [2, 5, 7, 8, 14, 15, 16])
    (.seq (.seq (.reg [
        ⟨(some 20), .faddr 1 (.tmp 2), none⟩,
        ⟨(some 21), .load 1 false (.tmp 20), none⟩,
        ⟨(some 22), .len (.tmp 21), none⟩,
        ⟨(some 23), .mv (.const (.int .i64 0)), none⟩] [2, 5, 7, 8, 14, 15, 16, 21, 22, 23])
    (.block 2 (.loop [2, 5, 7, 8, 14, 15, 16, 21, 22, 23]
      (.seq (.reg [
          ⟨(some 24), .bin .lss (.tmp 23) (.tmp 22), none⟩] [2, 5, 7, 8, 14, 15, 16, 21, 22, 23, 24])
      (.seq (.cond (.tmp 24)
       (.skip)
       (.exit 2))
      (.seq (.block 3 (.seq (.reg [
           ⟨(some 25), .iaddr 1 (.tmp 21) (.tmp 23), none⟩,
           ⟨(some 26), .load 1 false (.tmp 25), none⟩,
           ⟨(some 10), .mv (.tmp 26), none⟩] [2, 5, 7, 8, 10, 14, 15, 16, 21, 22, 23])
       (.seq (.reg [
           ⟨(some 27), .mv (.tmp 10), none⟩,
           ⟨(some 28), .mv (.tmp 7), none⟩,
           ⟨(some 29), .call 133 [(.tmp 27), (.tmp 28)], none⟩] [2, 5, 7, 8, 14, 15, 16, 21, 22, 23, 29])
       (.cond (.tmp 29)
        (.reg [
            ⟨(some 30), .mv (.tmp 8), none⟩,
            ⟨(some 31), .bin .add (.tmp 30) (.const (.int .i64 1)), none⟩,
            ⟨(some 8), .mv (.tmp 31), none⟩] [2, 5, 7, 8, 14, 15, 16, 21, 22, 23])
        (.skip)))))
      (.reg [
          ⟨(some 32), .bin .add (.tmp 23) (.const (.int .i64 1)), none⟩,
          ⟨(some 23), .mv (.tmp 32), none⟩] [2, 5, 7, 8, 14, 15, 16, 21, 22, 23])))))))
    (.seq (.seq (.reg [
        ⟨(some 33), .mv (.tmp 5), none⟩,
        ⟨(some 34), .bin .geq (.tmp 33) (.const (.int .i64 0)), none⟩,
        ⟨(some 35), .mv (.tmp 34), none⟩,
        ⟨(some 36), .mv (.tmp 8), (some (35, true))⟩,
        ⟨(some 37), .mv (.tmp 5), (some (35, true))⟩,
        ⟨(some 38), .bin .neq (.tmp 36) (.tmp 37), (some (35, true))⟩,
        ⟨(some 39), .pick (.tmp 35) (.tmp 38) (.const (.bool false)), none⟩] [2, 8, 14, 15, 16, 39])
    (.cond (.tmp 39)
     (.seq (.reg [
         ⟨(some 4), .mv (.const (.int .i64 0)), none⟩] [4])
     (.ret))
     (.skip)))
    (.reg [
        ⟨(some 40), .mv (.tmp 8), none⟩,
        ⟨(some 5), .mv (.tmp 40), none⟩] [2, 5, 14, 15, 16]))))))
   (.reg [
       ⟨(some 41), .bin .add (.tmp 16) (.const (.int .i64 1)), none⟩,
       ⟨(some 16), .mv (.tmp 41), none⟩] [2, 5, 14, 15, 16])))))))
 (.seq (.reg [
     ⟨(some 42), .mv (.tmp 5), none⟩,
     ⟨(some 43), .mm true (.tmp 42) (.const (.int .i64 0)), none⟩,
     ⟨(some 4), .mv (.tmp 43), none⟩] [4])
 (.ret))))
theorem s_impl_tIndex : stripF Try.prog 93 [[1, 2], [1, 2, 5], [2, 5, 14, 15, 16], [2, 5, 14, 15, 16], [2, 5, 14, 15, 16, 17], [2, 5, 7, 14, 15, 16], [2, 5, 7, 8, 14, 15, 16], [2, 5, 7, 8, 14, 15, 16, 21, 22, 23], [2, 5, 7, 8, 14, 15, 16, 21, 22, 23], [2, 5, 7, 8, 14, 15, 16, 21, 22, 23, 24], [2, 5, 7, 8, 10, 14, 15, 16, 21, 22, 23], [2, 5, 7, 8, 14, 15, 16, 21, 22, 23, 29], [2, 5, 7, 8, 14, 15, 16, 21, 22, 23], [2, 5, 7, 8, 14, 15, 16, 21, 22, 23], [2, 8, 14, 15, 16, 39], [4], [2, 5, 14, 15, 16], [2, 5, 14, 15, 16], [4]] = some (c_impl_tIndex, [.tmp 4], 44) := by kernel_rfl

/-- loop.example/g00920/spec.Choose -/
abbrev f_spec_Choose : Nat := 106
def c_spec_Choose : SC :=
 .seq (.reg [
     ⟨(some 4), .mv (.const (.int .i64 0)), none⟩] [0, 1])
 (.seq (.seq (.reg [
     ⟨(some 7), .mv (.tmp 0), none⟩,
     ⟨(some 8), .call 58 [(.tmp 7), (.const (.int .i64 0)), (.const (.int .i64 32))], none⟩,
     ⟨(some 9), .un .not (.tmp 8), none⟩,
     ⟨(some 10), .mv (.tmp 9), none⟩,
     ⟨(some 11), .mv (.tmp 1), (some (10, false))⟩,
     ⟨(some 12), .mv (.tmp 0), (some (10, false))⟩,
     ⟨(some 13), .call 58 [(.tmp 11), (.const (.int .i64 0)), (.tmp 12)], (some (10, false))⟩,
     ⟨(some 14), .un .not (.tmp 13), (some (10, false))⟩,
     ⟨(some 15), .pick (.tmp 10) (.const (.bool true)) (.tmp 14), none⟩] [0, 1, 15])
 (.cond (.tmp 15)
  (.seq (.reg [
      ⟨(some 4), .mv (.const (.int .i64 0)), none⟩] [4])
  (.ret))
  (.skip)))
 (.seq (.reg [
     ⟨(some 5), .mv (.const (.int .i64 1)), none⟩] [0, 1, 5])
 (.seq (.seq (.reg [
     ⟨(some 6), .mv (.const (.int .i64 1)), none⟩] [0, 1, 5, 6])
 (.block 0 (.loop [0, 1, 5, 6]
   (.seq (.seq (.reg [
       ⟨(some 16), .mv (.tmp 6), none⟩,
       ⟨(some 17), .mv (.tmp 1), none⟩,
       ⟨(some 18), .bin .leq (.tmp 16) (.tmp 17), none⟩] [0, 1, 5, 6, 18])
   (.cond (.tmp 18)
    (.skip)
    (.exit 0)))
   (.seq (.block 1 (.reg [
        ⟨(some 21), .mv (.tmp 5), none⟩,
        ⟨(some 22), .mv (.tmp 0), none⟩,
        ⟨(some 23), .mv (.tmp 1), none⟩,
        ⟨(some 24), .bin .sub (.tmp 22) (.tmp 23), none⟩,
        ⟨(some 25), .mv (.tmp 6), none⟩,
        ⟨(some 26), .bin .add (.tmp 24) (.tmp 25), none⟩,
        ⟨(some 27), .bin .mul (.tmp 21) (.tmp 26), none⟩,
        ⟨(some 28), .mv (.tmp 6), none⟩,
        ⟨(some 29), .bin .quo (.tmp 27) (.tmp 28), none⟩,
        ⟨(some 5), .mv (.tmp 29), none⟩] [0, 1, 5, 6]))
   (.reg [
       ⟨(some 19), .mv (.tmp 6), none⟩,
       ⟨(some 20), .bin .add (.tmp 19) (.const (.int .i64 1)), none⟩,
       ⟨(some 6), .mv (.tmp 20), none⟩] [0, 1, 5, 6]))))))
 (.seq (.reg [
     ⟨(some 30), .mv (.tmp 5), none⟩,
     ⟨(some 4), .mv (.tmp 30), none⟩] [4])
 (.ret)))))
theorem s_spec_Choose : stripF Try.prog 106 [[0, 1], [0, 1, 15], [4], [0, 1, 5], [0, 1, 5, 6], [0, 1, 5, 6], [0, 1, 5, 6, 18], [0, 1, 5, 6], [0, 1, 5, 6], [4]] = some (c_spec_Choose, [.tmp 4], 31) := by kernel_rfl

/-- loop.example/g00920/spec.l01Subset -/
abbrev f_spec_l01Subset : Nat := 107
def c_spec_l01Subset : SC :=
 .seq (.reg [
     ⟨(some 6), .mv (.const (.slice none 0 0)), none⟩] [0, 1, 2])
 (.seq (.reg [
     ⟨(some 10), .bslice 2 1 0 [] [], none⟩,
     ⟨(some 7), .mv (.tmp 10), none⟩] [0, 1, 2, 7])
 (.seq (.reg [
     ⟨(some 8), .mv (.const (.int .i64 0)), none⟩] [0, 1, 2, 7, 8])
 (.seq (.block 0 (.loop [0, 1, 2, 7, 8]
   (.seq (.seq (.reg [
       ⟨(some 11), .mv (.tmp 7), none⟩,
       ⟨(some 12), .len (.tmp 11), none⟩,
       ⟨(some 13), .mv (.tmp 1), none⟩,
       ⟨(some 14), .bin .lss (.tmp 12) (.tmp 13), none⟩,
       ⟨(some 15), .mv (.tmp 14), none⟩,
       ⟨(some 16), .mv (.tmp 8), (some (15, true))⟩,
       ⟨(some 17), .mv (.tmp 0), (some (15, true))⟩,
       ⟨(some 18), .bin .lss (.tmp 16) (.tmp 17), (some (15, true))⟩,
       ⟨(some 19), .pick (.tmp 15) (.tmp 18) (.const (.bool false)), none⟩] [0, 1, 2, 7, 8, 19])
   (.cond (.tmp 19)
    (.skip)
    (.exit 0)))
   (.block 1 (.seq (.reg [
        ⟨(some 20), .mv (.tmp 0), none⟩,
        ⟨(some 21), .bin .sub (.tmp 20) (.const (.int .i64 1)), none⟩,
        ⟨(some 22), .mv (.tmp 8), none⟩,
        ⟨(some 23), .bin .sub (.tmp 21) (.tmp 22), none⟩,
        ⟨(some 24), .mv (.tmp 1), none⟩,
        ⟨(some 25), .bin .sub (.tmp 24) (.const (.int .i64 1)), none⟩,
        ⟨(some 26), .mv (.tmp 7), none⟩,
        ⟨(some 27), .len (.tmp 26), none⟩,
        ⟨(some 28), .bin .sub (.tmp 25) (.tmp 27), none⟩,
        ⟨(some 29), .call 106 [(.tmp 23), (.tmp 28)], none⟩,
        ⟨(some 9), .mv (.tmp 29), none⟩] [0, 1, 2, 7, 8, 9])
    (.seq (.seq (.reg [
        ⟨(some 30), .mv (.tmp 2), none⟩,
        ⟨(some 31), .mv (.tmp 9), none⟩,
        ⟨(some 32), .bin .lss (.tmp 30) (.tmp 31), none⟩] [0, 1, 2, 7, 8, 9, 32])
    (.cond (.tmp 32)
     (.reg [
         ⟨(some 33), .mv (.tmp 7), none⟩,
         ⟨(some 34), .mv (.tmp 8), none⟩,
         ⟨(some 35), .bslice 2 1 1 [(.int .i64 0)] [(0, (.tmp 34))], none⟩,
         ⟨(some 36), .app 2 1 8 (.tmp 33) (.tmp 35), none⟩,
         ⟨(some 7), .mv (.tmp 36), none⟩] [0, 1, 2, 7, 8])
     (.reg [
         ⟨(some 37), .mv (.tmp 2), none⟩,
         ⟨(some 38), .mv (.tmp 9), none⟩,
         ⟨(some 39), .bin .sub (.tmp 37) (.tmp 38), none⟩,
         ⟨(some 2), .mv (.tmp 39), none⟩] [0, 1, 2, 7, 8])))
    (.reg [
        ⟨(some 40), .mv (.tmp 8), none⟩,
        ⟨(some 41), .bin .add (.tmp 40) (.const (.int .i64 1)), none⟩,
        ⟨(some 8), .mv (.tmp 41), none⟩] [0, 1, 2, 7, 8])))))))
 (.seq (.reg [
     ⟨(some 42), .mv (.tmp 7), none⟩,
     ⟨(some 6), .mv (.tmp 42), none⟩] [6])
 (.ret)))))
theorem s_spec_l01Subset : stripF Try.prog 107 [[0, 1, 2], [0, 1, 2, 7], [0, 1, 2, 7, 8], [0, 1, 2, 7, 8], [0, 1, 2, 7, 8, 19], [0, 1, 2, 7, 8, 9], [0, 1, 2, 7, 8, 9, 32], [0, 1, 2, 7, 8], [0, 1, 2, 7, 8], [0, 1, 2, 7, 8], [6]] = some (c_spec_l01Subset, [.tmp 6], 43) := by kernel_rfl

/-- loop.example/g00920/spec.l25Within -/
abbrev f_spec_l25Within : Nat := 132
def c_spec_l25Within : SC :=
 .seq (.reg [
     ⟨(some 4), .mv (.const (.bool false)), none⟩] [0, 1])
 (.seq (.seq (.reg [
     ⟨(some 5), .mv (.const (.int .i64 0)), none⟩] [0, 1, 5])
 (.block 0 (.loop [0, 1, 5]
   (.seq (.seq (.reg [
       ⟨(some 6), .mv (.tmp 5), none⟩,
       ⟨(some 7), .mv (.tmp 0), none⟩,
       ⟨(some 8), .len (.tmp 7), none⟩,
       ⟨(some 9), .bin .lss (.tmp 6) (.tmp 8), none⟩] [0, 1, 5, 9])
   (.cond (.tmp 9)
    (.skip)
    (.exit 0)))
   (.seq (.block 1 (.seq (.reg [
        ⟨(some 12), .mv (.tmp 1), none⟩,
        ⟨(some 13), .mv (.tmp 0), none⟩,
        ⟨(some 14), .mv (.tmp 5), none⟩,
        ⟨(some 15), .iaddr 1 (.tmp 13) (.tmp 14), none⟩,
        ⟨(some 16), .load 1 false (.tmp 15), none⟩,
        ⟨(some 17), .call 59 [(.tmp 12), (.tmp 16)], none⟩,
        ⟨(some 18), .un .not (.tmp 17), none⟩] [0, 1, 5, 18])
    (.cond (.tmp 18)
     (.seq (.reg [
         ⟨(some 4), .mv (.const (.bool false)), none⟩] [4])
     (.ret))
     (.skip))))
   (.reg [
       ⟨(some 10), .mv (.tmp 5), none⟩,
       ⟨(some 11), .bin .add (.tmp 10) (.const (.int .i64 1)), none⟩,
       ⟨(some 5), .mv (.tmp 11), none⟩] [0, 1, 5]))))))
 (.seq (.reg [
     ⟨(some 4), .mv (.const (.bool true)), none⟩] [4])
 (.ret)))
theorem s_spec_l25Within : stripF Try.prog 132 [[0, 1], [0, 1, 5], [0, 1, 5], [0, 1, 5, 9], [0, 1, 5, 18], [4], [0, 1, 5], [4]] = some (c_spec_l25Within, [.tmp 4], 19) := by kernel_rfl

/-- loop.example/g00920/impl.contains -/
abbrev f_impl_contains : Nat := 133
def c_impl_contains : SC :=
 .seq (.reg [
     ⟨(some 2), .box 26 (.tmp 0), none⟩,
     ⟨(some 4), .mv (.const (.bool false)), none⟩] [1, 2])
 (.seq (.reg [
     ⟨(some 5), .mv (.tmp 1), none⟩,
     ⟨(some 6), .mkf 148 [(.tmp 2)], none⟩,
     ⟨(some 7), .call 86 [(.tmp 5), (.tmp 6)], none⟩,
     ⟨(some 8), .un .not (.tmp 7), none⟩,
     ⟨(some 4), .mv (.tmp 8), none⟩] [4])
 (.ret))
theorem s_impl_contains : stripF Try.prog 133 [[1, 2], [4]] = some (c_impl_contains, [.tmp 4], 9) := by kernel_rfl

/-- loop.example/g00920/impl.contains$1 -/
abbrev f_impl_contains_c1 : Nat := 148
def c_impl_contains_c1 : SC :=
 .seq (.reg [
     ⟨(some 3), .mv (.const (.bool false)), none⟩] [0, 1])
 (.seq (.reg [
     ⟨(some 4), .load 1 false (.tmp 1), none⟩,
     ⟨(some 5), .mv (.tmp 0), none⟩,
     ⟨(some 6), .call 62 [(.tmp 4), (.tmp 5)], none⟩,
     ⟨(some 7), .un .not (.tmp 6), none⟩,
     ⟨(some 3), .mv (.tmp 7), none⟩] [3])
 (.ret))
theorem s_impl_contains_c1 : stripF Try.prog 148 [[0, 1], [3]] = some (c_impl_contains_c1, [.tmp 3], 8) := by kernel_rfl


theorem specChoose_fn (n k : Int) : PFn Try.prog f_spec_Choose [I n, I k] (I (chooseI n k)) := by
  intro H; refine ACalls.introB s_spec_Choose (by simp) ?_; intro hB hA; unfold c_spec_Choose; simp (config := { maxSteps := 1000000 }) (disch := (first | omega | (simp only [go_sem]; try omega))) only [go_sem, Nat.reduceAdd, Nat.reduceEqDiff, Nat.reduceLeDiff, Nat.reduceMul, Nat.reduceLT, reduceIte, Int.reduceToNat, w64_id, cast_succ]
  repeat (first | (with_reducible first | refine SW.seq ?_ | refine SW.block ?_ | refine SW.rowC ?_ | refine SW.skip ?_ | refine SW.exit ?_ | refine PFn.use (l00In_fn _ _ _) ?_ | refine PFn.useq (l00In_fn _ _ _) ?_ | intro _ | refine And.intro (by omega) ?_) | simp (config := { maxSteps := 1000000 }) (disch := (first | omega | (simp only [go_sem]; try omega))) only [go_sem, Nat.reduceAdd, Nat.reduceEqDiff, Nat.reduceLeDiff, Nat.reduceMul, Nat.reduceLT, reduceIte, Int.reduceToNat, w64_id, cast_succ])
  (first | refine GSplit.df (fun h => ?_) (fun h => ?_) | refine GSplit.dt (fun h => ?_) (fun h => ?_) | refine GSplit.ndf (fun h => ?_) (fun h => ?_) | refine GSplit.ndt (fun h => ?_) (fun h => ?_) | refine GSplit.nbf (fun h => ?_) (fun h => ?_) | refine GSplit.nbt (fun h => ?_) (fun h => ?_) | refine GSplit.bf (fun h => ?_) (fun h => ?_) | refine GSplit.bt (fun h => ?_) (fun h => ?_))
  rotate_left
  · repeat (first | (with_reducible first | refine SW.seq ?_ | refine SW.block ?_ | refine SW.rowC ?_ | refine SW.skip ?_ | refine SW.exit ?_ | intro _ | refine And.intro (by omega) ?_) | simp (config := { maxSteps := 1000000 }) (disch := (first | omega | (simp only [go_sem]; try omega))) only [go_sem, Nat.reduceAdd, Nat.reduceEqDiff, Nat.reduceLeDiff, Nat.reduceMul, Nat.reduceLT, reduceIte, Int.reduceToNat, w64_id, cast_succ])
    (first | refine SW.condD rfl (fun h2 => ?_) (fun h2 => ?_) | refine SW.condN rfl (fun h2 => ?_) (fun h2 => ?_) | refine SW.condNB rfl (fun h2 => ?_) (fun h2 => ?_) | refine SW.condB rfl (fun h2 => ?_) (fun h2 => ?_))
    · repeat (first | (with_reducible first | refine SW.seq ?_ | refine SW.block ?_ | refine SW.rowC ?_ | refine SW.skip ?_ | refine SW.exit ?_ | intro _ | refine And.intro (by omega) ?_) | simp (config := { maxSteps := 1000000 }) (disch := (first | omega | (simp only [go_sem]; try omega))) only [go_sem, Nat.reduceAdd, Nat.reduceEqDiff, Nat.reduceLeDiff, Nat.reduceMul, Nat.reduceLT, reduceIte, Int.reduceToNat, w64_id, cast_succ])
      refine SW.ret ?_; (try simp only [go_sem]); (first | refine FunPost.one ?_ | refine FunPost.two ?_ | refine FunPost.three ?_); (try simp (config := { maxSteps := 1000000 }) (disch := (first | omega | (simp only [go_sem]; try omega))) only [go_sem, Nat.reduceAdd, Nat.reduceEqDiff, Nat.reduceLeDiff, Nat.reduceMul, Nat.reduceLT, reduceIte, Int.reduceToNat, w64_id, cast_succ]); (first | (with_reducible refine GR.drop ?_ ?_; (simp only [go_sem, and_self, and_true, true_and, implies_true, List.take_succ_cons, List.take_zero])) | refine GR.of ?_); refine ⟨?_, rfl⟩; (try with_reducible rfl)
      rw [chooseI, h]; rfl
    · cases h2
  repeat (first | (with_reducible first | refine SW.seq ?_ | refine SW.block ?_ | refine SW.rowC ?_ | refine SW.skip ?_ | refine SW.exit ?_ | refine PFn.use (l00In_fn _ _ _) ?_ | refine PFn.useq (l00In_fn _ _ _) ?_ | intro _ | refine And.intro (by omega) ?_) | simp (config := { maxSteps := 1000000 }) (disch := (first | omega | (simp only [go_sem]; try omega))) only [go_sem, Nat.reduceAdd, Nat.reduceEqDiff, Nat.reduceLeDiff, Nat.reduceMul, Nat.reduceLT, reduceIte, Int.reduceToNat, w64_id, cast_succ])
  (first | refine SW.condD rfl (fun h2 => ?_) (fun h2 => ?_) | refine SW.condN rfl (fun h2 => ?_) (fun h2 => ?_) | refine SW.condNB rfl (fun h2 => ?_) (fun h2 => ?_) | refine SW.condB rfl (fun h2 => ?_) (fun h2 => ?_))
  · repeat (first | (with_reducible first | refine SW.seq ?_ | refine SW.block ?_ | refine SW.rowC ?_ | refine SW.skip ?_ | refine SW.exit ?_ | intro _ | refine And.intro (by omega) ?_) | simp (config := { maxSteps := 1000000 }) (disch := (first | omega | (simp only [go_sem]; try omega))) only [go_sem, Nat.reduceAdd, Nat.reduceEqDiff, Nat.reduceLeDiff, Nat.reduceMul, Nat.reduceLT, reduceIte, Int.reduceToNat, w64_id, cast_succ])
    refine SW.ret ?_; (try simp only [go_sem]); (first | refine FunPost.one ?_ | refine FunPost.two ?_ | refine FunPost.three ?_); (try simp (config := { maxSteps := 1000000 }) (disch := (first | omega | (simp only [go_sem]; try omega))) only [go_sem, Nat.reduceAdd, Nat.reduceEqDiff, Nat.reduceLeDiff, Nat.reduceMul, Nat.reduceLT, reduceIte, Int.reduceToNat, w64_id, cast_succ]); (first | (with_reducible refine GR.drop ?_ ?_; (simp only [go_sem, and_self, and_true, true_and, implies_true, List.take_succ_cons, List.take_zero])) | refine GR.of ?_); refine ⟨?_, rfl⟩; (try with_reducible rfl)
    rw [chooseI, h, h2]; rfl
  have hn := h
  have hk := h2
  simp only [Bool.and_eq_true, decide_eq_true_eq] at hn hk
  obtain ⟨m, rfl⟩ := Int.eq_ofNat_of_zero_le hk.1
  have e0 : chooseI n m = (List.range m).foldl (fun c (i : Nat) => w64 ((w64 (c * (n - m + (i + 1 : Nat)))).tdiv (i + 1 : Nat))) 1 := by
    rw [chooseI, h, h2]; simp
  rw [e0]
  clear e0
  repeat (first | (with_reducible first | refine SW.seq ?_ | refine SW.block ?_ | refine SW.rowC ?_ | refine SW.skip ?_ | refine SW.exit ?_ | intro _ | refine And.intro (by omega) ?_) | simp (config := { maxSteps := 1000000 }) (disch := (first | omega | (simp only [go_sem]; try omega))) only [go_sem, Nat.reduceAdd, Nat.reduceEqDiff, Nat.reduceLeDiff, Nat.reduceMul, Nat.reduceLT, reduceIte, Int.reduceToNat, w64_id, cast_succ])
  refine SW.loopE (fun E0 H0 q E' H' => ∃ i : Nat, i ≤ m ∧ q = m - i ∧ E' = aput (aput E0 6 (I ((i + 1 : Nat) : Int))) 5 (I ((List.range i).foldl (fun c (i : Nat) => w64 ((w64 (c * (n - m + (i + 1 : Nat)))).tdiv (i + 1 : Nat))) 1)) ∧ H' = H0) m ⟨0, by omega, by omega, rfl, rfl⟩ ?_
  rintro q E' H' ⟨i, hi, rfl, rfl, rfl⟩
  simp (config := { maxSteps := 1000000 }) (disch := (first | omega | (simp only [go_sem]; try omega))) only [go_sem, Nat.reduceAdd, Nat.reduceEqDiff, Nat.reduceLeDiff, Nat.reduceMul, Nat.reduceLT, reduceIte, Int.reduceToNat, w64_id, cast_succ]
  repeat (first | (with_reducible first | refine SW.seq ?_ | refine SW.block ?_ | refine SW.rowC ?_ | refine SW.skip ?_ | refine SW.exit ?_ | intro _ | refine And.intro (by omega) ?_) | simp (config := { maxSteps := 1000000 }) (disch := (first | omega | (simp only [go_sem]; try omega))) only [go_sem, Nat.reduceAdd, Nat.reduceEqDiff, Nat.reduceLeDiff, Nat.reduceMul, Nat.reduceLT, reduceIte, Int.reduceToNat, w64_id, cast_succ])
  (first | refine SW.condD rfl (fun h3 => ?_) (fun h3 => ?_) | refine SW.condN rfl (fun h3 => ?_) (fun h3 => ?_) | refine SW.condNB rfl (fun h3 => ?_) (fun h3 => ?_) | refine SW.condB rfl (fun h3 => ?_) (fun h3 => ?_))
  · have hne : ((i + 1 : Nat) : Int) ≠ 0 := by omega
    repeat (first | (with_reducible first | refine SW.seq ?_ | refine SW.block ?_ | refine SW.rowC ?_ | refine SW.skip ?_ | refine SW.exit ?_ | intro _ | refine And.intro (by omega) ?_) | simp (config := { maxSteps := 1000000 }) (disch := (first | omega | (simp only [go_sem]; try omega))) only [go_sem, Nat.reduceAdd, Nat.reduceEqDiff, Nat.reduceLeDiff, Nat.reduceMul, Nat.reduceLT, reduceIte, Int.reduceToNat, w64_id, cast_succ, hne])
    refine SLoop.next (m - (i + 1)) (by omega) ⟨i + 1, by omega, rfl, ?_, rfl⟩
    simp [go_sem, List.range_succ, List.foldl_append]
  · repeat (first | (with_reducible first | refine SW.seq ?_ | refine SW.block ?_ | refine SW.rowC ?_ | refine SW.skip ?_ | refine SW.exit ?_ | intro _ | refine And.intro (by omega) ?_) | simp (config := { maxSteps := 1000000 }) (disch := (first | omega | (simp only [go_sem]; try omega))) only [go_sem, Nat.reduceAdd, Nat.reduceEqDiff, Nat.reduceLeDiff, Nat.reduceMul, Nat.reduceLT, reduceIte, Int.reduceToNat, w64_id, cast_succ])
    refine SW.ret ?_; (try simp only [go_sem]); (first | refine FunPost.one ?_ | refine FunPost.two ?_ | refine FunPost.three ?_); (try simp (config := { maxSteps := 1000000 }) (disch := (first | omega | (simp only [go_sem]; try omega))) only [go_sem, Nat.reduceAdd, Nat.reduceEqDiff, Nat.reduceLeDiff, Nat.reduceMul, Nat.reduceLT, reduceIte, Int.reduceToNat, w64_id, cast_succ]); (first | (with_reducible refine GR.drop ?_ ?_; (simp only [go_sem, and_self, and_true, true_and, implies_true, List.take_succ_cons, List.take_zero])) | refine GR.of ?_); refine ⟨?_, rfl⟩; (try with_reducible rfl)
    have : i = m := by omega
    subst this
    rfl

theorem subset_fn (n k R : Nat) (hn : n ≤ 32) (hk : k ≤ 1000000) (hR : R < ch n k) : PFn Try.prog f_spec_l01Subset [I n, I k, I R] (ilS ((subsN n k).getD R [])) := by
  intro H; refine ACalls.introB s_spec_l01Subset (by simp) ?_; intro hB hA; unfold c_spec_l01Subset; simp (config := { maxSteps := 1000000 }) (disch := (first | omega | (simp only [go_sem]; try omega))) only [go_sem, Nat.reduceAdd, Nat.reduceEqDiff, Nat.reduceLeDiff, Nat.reduceMul, Nat.reduceLT, reduceIte, Int.reduceToNat, w64_id, cast_succ]
  repeat (first | (with_reducible first | refine SW.seq ?_ | refine SW.block ?_ | refine SW.rowC ?_ | refine SW.skip ?_ | refine SW.exit ?_ | intro _ | refine And.intro (by omega) ?_) | simp (config := { maxSteps := 1000000 }) (disch := (first | omega | (simp only [go_sem]; try omega))) only [go_sem, Nat.reduceAdd, Nat.reduceEqDiff, Nat.reduceLeDiff, Nat.reduceMul, Nat.reduceLT, reduceIte, Int.reduceToNat, w64_id, cast_succ])
  refine SW.loopE (fun E0 H0 q E' H' => ∃ (x ver k' rank : Nat) (out : List Int), x ≤ n ∧ q = n - x ∧ E' = aput (aput (aput E0 8 (I x)) 7 (.nm H.length ver 0 out.length)) 2 (I rank) ∧ H' = H ++ [⟨ver, 2, 1, out.map I⟩] ∧ out.length + k' = k ∧ rank < ch (n - x) k' ∧ (subsN n k)[R]? = (subsL (n - x) x k')[rank]?.map (out ++ ·)) n ⟨0, 0, k, R, [], by omega, by omega, rfl, rfl, by simp, hR, by simp [subsN]⟩ ?_
  rintro q E' H' ⟨x, ver, k', rank, out, hx, rfl, rfl, rfl, hok, hrk, hget⟩
  have hch := ch_le (n - x) k'
  have h2p : 2 ^ (n - x) ≤ 2 ^ 32 := Nat.pow_le_pow_right (by omega) (by omega)
  have fin : k' = 0 → (subsN n k).getD R [] = out := by
    intro h0
    subst h0
    rw [ch_zero] at hrk
    have : rank = 0 := by omega
    subst this
    rw [List.getD_eq_getElem?_getD, hget, subsL_zero]; simp
  simp (config := { maxSteps := 1000000 }) (disch := (first | omega | (simp only [go_sem]; try omega))) only [go_sem, Nat.reduceAdd, Nat.reduceEqDiff, Nat.reduceLeDiff, Nat.reduceMul, Nat.reduceLT, reduceIte, Int.reduceToNat, w64_id, cast_succ]
  repeat (first | (with_reducible first | refine SW.seq ?_ | refine SW.block ?_ | refine SW.rowC ?_ | refine SW.skip ?_ | refine SW.exit ?_ | intro _ | refine And.intro (by omega) ?_) | simp (config := { maxSteps := 1000000 }) (disch := (first | omega | (simp only [go_sem]; try omega))) only [go_sem, Nat.reduceAdd, Nat.reduceEqDiff, Nat.reduceLeDiff, Nat.reduceMul, Nat.reduceLT, reduceIte, Int.reduceToNat, w64_id, cast_succ])
  (first | refine GSplit.df (fun h => ?_) (fun h => ?_) | refine GSplit.dt (fun h => ?_) (fun h => ?_) | refine GSplit.ndf (fun h => ?_) (fun h => ?_) | refine GSplit.ndt (fun h => ?_) (fun h => ?_) | refine GSplit.nbf (fun h => ?_) (fun h => ?_) | refine GSplit.nbt (fun h => ?_) (fun h => ?_) | refine GSplit.bf (fun h => ?_) (fun h => ?_) | refine GSplit.bt (fun h => ?_) (fun h => ?_))
  · repeat (first | (with_reducible first | refine SW.seq ?_ | refine SW.block ?_ | refine SW.rowC ?_ | refine SW.skip ?_ | refine SW.exit ?_ | intro _ | refine And.intro (by omega) ?_) | simp (config := { maxSteps := 1000000 }) (disch := (first | omega | (simp only [go_sem]; try omega))) only [go_sem, Nat.reduceAdd, Nat.reduceEqDiff, Nat.reduceLeDiff, Nat.reduceMul, Nat.reduceLT, reduceIte, Int.reduceToNat, w64_id, cast_succ])
    (first | refine SW.condD rfl (fun h2 => ?_) (fun h2 => ?_) | refine SW.condN rfl (fun h2 => ?_) (fun h2 => ?_) | refine SW.condNB rfl (fun h2 => ?_) (fun h2 => ?_) | refine SW.condB rfl (fun h2 => ?_) (fun h2 => ?_))
    · obtain ⟨m, hm⟩ : ∃ m, n - x = m + 1 := ⟨n - x - 1, by omega⟩
      obtain ⟨k2, rfl⟩ : ∃ k2, k' = k2 + 1 := ⟨k' - 1, by omega⟩
      have hcs : PFn Try.prog f_spec_Choose [I ((n : Int) - 1 - x), I ((k : Int) - 1 - out.length)] (I (ch m k2)) := by
        have := specChoose_fn ((n : Int) - 1 - x) ((k : Int) - 1 - out.length)
        rw [show (n : Int) - 1 - x = (m : Int) by omega, show (k : Int) - 1 - out.length = (k2 : Int) by omega] at this ⊢
        rwa [chooseI_any m k2 (by omega), if_pos (by omega)] at this
      have hnm : n - (x + 1) = m := by omega
      rw [hm] at hget hrk hch h2p
      rw [subsL] at hget
      have hl1 := subsL_len m ((x : Int) + 1) k2
      have hc2 : ch (m + 1) (k2 + 1) = ch m k2 + ch m (k2 + 1) := rfl
      repeat (first | (with_reducible first | refine SW.seq ?_ | refine SW.block ?_ | refine SW.rowC ?_ | refine SW.skip ?_ | refine SW.exit ?_ | refine PFn.use (hcs) ?_ | refine PFn.useq (hcs) ?_ | intro _ | refine And.intro (by omega) ?_) | simp (config := { maxSteps := 1000000 }) (disch := (first | omega | (simp only [go_sem]; try omega))) only [go_sem, Nat.reduceAdd, Nat.reduceEqDiff, Nat.reduceLeDiff, Nat.reduceMul, Nat.reduceLT, reduceIte, Int.reduceToNat, w64_id, cast_succ])
      (first | refine SW.condD rfl (fun h3 => ?_) (fun h3 => ?_) | refine SW.condN rfl (fun h3 => ?_) (fun h3 => ?_) | refine SW.condNB rfl (fun h3 => ?_) (fun h3 => ?_) | refine SW.condB rfl (fun h3 => ?_) (fun h3 => ?_))
      · have h3' : rank < ch m k2 := by omega
        repeat (first | (with_reducible first | refine SW.seq ?_ | refine SW.block ?_ | refine SW.rowC ?_ | refine SW.skip ?_ | refine SW.exit ?_ | intro _ | refine And.intro (by omega) ?_) | simp (config := { maxSteps := 1000000 }) (disch := (first | omega | (simp only [go_sem]; try omega))) only [go_sem, Nat.reduceAdd, Nat.reduceEqDiff, Nat.reduceLeDiff, Nat.reduceMul, Nat.reduceLT, reduceIte, Int.reduceToNat, w64_id, cast_succ])
        refine SLoop.nextT 1 (n - (x + 1)) hB (by omega) (by omega) (by simp) ?_ ?_ ⟨x + 1, ver + 1, k2, rank, out ++ [(x : Int)], by omega, rfl, ?_, by simp, by simp; omega, by rw [hnm]; exact h3', ?_⟩
        · (simp only [go_sem, Nat.reduceAdd, Nat.reduceEqDiff, reduceIte, go_sem, and_self, and_true, true_and, implies_true, List.take_succ_cons, List.take_zero, and_true, true_and]; try omega)
        · (simp only [go_sem, Nat.reduceAdd, Nat.reduceEqDiff, reduceIte, go_sem, and_self, and_true, true_and, implies_true, List.take_succ_cons, List.take_zero, and_true, true_and]; try omega)
        · simp [go_sem]
        · rw [hget, hnm, List.getElem?_append_left (by rw [List.length_map, hl1]; exact h3'), List.getElem?_map, Option.map_map]
          simp [Function.comp_def]
      · have h3' : ch m k2 ≤ rank := by omega
        have e2 : (rank : Int) - (ch m k2 : Int) = ((rank - ch m k2 : Nat) : Int) := by omega
        have hrk2 : rank - ch m k2 ≤ 4294967296 := by omega
        generalize hrr : rank - ch m k2 = rk at *
        repeat (first | (with_reducible first | refine SW.seq ?_ | refine SW.block ?_ | refine SW.rowC ?_ | refine SW.skip ?_ | refine SW.exit ?_ | intro _ | refine And.intro (by omega) ?_) | simp (config := { maxSteps := 1000000 }) (disch := (first | omega | (simp only [go_sem]; try omega))) only [go_sem, Nat.reduceAdd, Nat.reduceEqDiff, Nat.reduceLeDiff, Nat.reduceMul, Nat.reduceLT, reduceIte, Int.reduceToNat, w64_id, cast_succ, e2])
        refine SLoop.next (n - (x + 1)) (by omega) ⟨x + 1, ver, k2 + 1, rk, out, by omega, rfl, ?_, rfl, hok, by rw [hnm]; omega, ?_⟩
        · simp [go_sem]
        · rw [hget, hnm, List.getElem?_append_right (by rw [List.length_map, hl1]; exact h3'), List.length_map, hl1, hrr]
          rfl
    · have hk0 : k' = 0 := by
        cases k' with
        | zero => rfl
        | succ k2 => rw [show n - x = 0 by omega] at hrk; simp [ch] at hrk
      repeat (first | (with_reducible first | refine SW.seq ?_ | refine SW.block ?_ | refine SW.rowC ?_ | refine SW.skip ?_ | refine SW.exit ?_ | intro _ | refine And.intro (by omega) ?_) | simp (config := { maxSteps := 1000000 }) (disch := (first | omega | (simp only [go_sem]; try omega))) only [go_sem, Nat.reduceAdd, Nat.reduceEqDiff, Nat.reduceLeDiff, Nat.reduceMul, Nat.reduceLT, reduceIte, Int.reduceToNat, w64_id, cast_succ])
      refine SW.ret ?_; (try simp only [go_sem]); (first | refine FunPost.one ?_ | refine FunPost.two ?_ | refine FunPost.three ?_); (try simp (config := { maxSteps := 1000000 }) (disch := (first | omega | (simp only [go_sem]; try omega))) only [go_sem, Nat.reduceAdd, Nat.reduceEqDiff, Nat.reduceLeDiff, Nat.reduceMul, Nat.reduceLT, reduceIte, Int.reduceToNat, w64_id, cast_succ])
      rw [fin hk0]
      exact GR.froz (froz_rowI (ver := ver) (ty := 2) (Nat.le_refl _) (by simp)) ⟨rfl, rfl⟩
  · repeat (first | (with_reducible first | refine SW.seq ?_ | refine SW.block ?_ | refine SW.rowC ?_ | refine SW.skip ?_ | refine SW.exit ?_ | intro _ | refine And.intro (by omega) ?_) | simp (config := { maxSteps := 1000000 }) (disch := (first | omega | (simp only [go_sem]; try omega))) only [go_sem, Nat.reduceAdd, Nat.reduceEqDiff, Nat.reduceLeDiff, Nat.reduceMul, Nat.reduceLT, reduceIte, Int.reduceToNat, w64_id, cast_succ])
    (first | refine SW.condD rfl (fun h2 => ?_) (fun h2 => ?_) | refine SW.condN rfl (fun h2 => ?_) (fun h2 => ?_) | refine SW.condNB rfl (fun h2 => ?_) (fun h2 => ?_) | refine SW.condB rfl (fun h2 => ?_) (fun h2 => ?_))
    · cases h2
    repeat (first | (with_reducible first | refine SW.seq ?_ | refine SW.block ?_ | refine SW.rowC ?_ | refine SW.skip ?_ | refine SW.exit ?_ | intro _ | refine And.intro (by omega) ?_) | simp (config := { maxSteps := 1000000 }) (disch := (first | omega | (simp only [go_sem]; try omega))) only [go_sem, Nat.reduceAdd, Nat.reduceEqDiff, Nat.reduceLeDiff, Nat.reduceMul, Nat.reduceLT, reduceIte, Int.reduceToNat, w64_id, cast_succ])
    refine SW.ret ?_; (try simp only [go_sem]); (first | refine FunPost.one ?_ | refine FunPost.two ?_ | refine FunPost.three ?_); (try simp (config := { maxSteps := 1000000 }) (disch := (first | omega | (simp only [go_sem]; try omega))) only [go_sem, Nat.reduceAdd, Nat.reduceEqDiff, Nat.reduceLeDiff, Nat.reduceMul, Nat.reduceLT, reduceIte, Int.reduceToNat, w64_id, cast_succ])
    rw [fin (by omega)]
    exact GR.froz (froz_rowI (ver := ver) (ty := 2) (Nat.le_refl _) (by simp)) ⟨rfl, rfl⟩

/-! ### Blocks that hold a set -/
theorem contains_c1_ok (H : List Blk) (p ty : Nat) (x : Int) (set : List Int) (hp : H[p]? = some ⟨0, ty, 1, [ilS set]⟩) : ACalls Try.prog f_impl_contains_c1 [I x, .pc p 0 0] H (fun r H' => r = Bv (!set.contains x) ∧ H' = H) := by
  refine ACalls.introB s_impl_contains_c1 (by simp) ?_; intro hB hA; unfold c_impl_contains_c1; simp (config := { maxSteps := 1000000 }) (disch := (first | omega | (simp only [go_sem]; try omega))) only [go_sem, Nat.reduceAdd, Nat.reduceEqDiff, Nat.reduceLeDiff, Nat.reduceMul, Nat.reduceLT, reduceIte, Int.reduceToNat, w64_id, cast_succ]
  repeat (first | (with_reducible first | refine SW.seq ?_ | refine SW.block ?_ | refine SW.rowC ?_ | refine SW.skip ?_ | refine SW.exit ?_ | refine PFn.use (ContainsI_fn _ _) ?_ | refine PFn.useq (ContainsI_fn _ _) ?_ | intro _ | refine And.intro (by omega) ?_) | simp (config := { maxSteps := 1000000 }) (disch := (first | omega | (simp only [go_sem]; try omega))) only [go_sem, Nat.reduceAdd, Nat.reduceEqDiff, Nat.reduceLeDiff, Nat.reduceMul, Nat.reduceLT, reduceIte, Int.reduceToNat, w64_id, cast_succ, pc_ld hp, pc_alive hp])
  refine SW.ret ?_; (try simp only [go_sem]); (first | refine FunPost.one ?_ | refine FunPost.two ?_ | refine FunPost.three ?_); (try simp (config := { maxSteps := 1000000 }) (disch := (first | omega | (simp only [go_sem]; try omega))) only [go_sem, Nat.reduceAdd, Nat.reduceEqDiff, Nat.reduceLeDiff, Nat.reduceMul, Nat.reduceLT, reduceIte, Int.reduceToNat, w64_id, cast_succ]); (first | (with_reducible refine GR.drop ?_ ?_; (simp only [go_sem, and_self, and_true, true_and, implies_true, List.take_succ_cons, List.take_zero])) | refine GR.of ?_); refine ⟨?_, rfl⟩; (try with_reducible rfl)
theorem contains_fn (set part : List Int) : PFn Try.prog f_impl_contains [ilS set, ilS part] (Bv (part.all set.contains)) := by
  intro H; refine ACalls.introB s_impl_contains (by simp) ?_; intro hB hA; unfold c_impl_contains; simp (config := { maxSteps := 1000000 }) (disch := (first | omega | (simp only [go_sem]; try omega))) only [go_sem, Nat.reduceAdd, Nat.reduceEqDiff, Nat.reduceLeDiff, Nat.reduceMul, Nat.reduceLT, reduceIte, Int.reduceToNat, w64_id, cast_succ]
  repeat (first | (with_reducible first | refine SW.seq ?_ | refine SW.block ?_ | refine SW.rowC ?_ | refine SW.skip ?_ | refine SW.exit ?_ | intro _ | refine And.intro (by omega) ?_) | simp (config := { maxSteps := 1000000 }) (disch := (first | omega | (simp only [go_sem]; try omega))) only [go_sem, Nat.reduceAdd, Nat.reduceEqDiff, Nat.reduceLeDiff, Nat.reduceMul, Nat.reduceLT, reduceIte, Int.reduceToNat, w64_id, cast_succ])
  refine (conS_ok I _ _ part rfl _ _ (by kernel_rfl) (fun x => !set.contains x) (fun x _ => contains_c1_ok _ H.length 26 x set (by simp))).mono ?_
  rintro r H' ⟨rfl, rfl⟩
  repeat (first | (with_reducible first | refine SW.seq ?_ | refine SW.block ?_ | refine SW.rowC ?_ | refine SW.skip ?_ | refine SW.exit ?_ | intro _ | refine And.intro (by omega) ?_) | simp (config := { maxSteps := 1000000 }) (disch := (first | omega | (simp only [go_sem]; try omega))) only [go_sem, Nat.reduceAdd, Nat.reduceEqDiff, Nat.reduceLeDiff, Nat.reduceMul, Nat.reduceLT, reduceIte, Int.reduceToNat, w64_id, cast_succ])
  refine SW.ret ?_; (try simp only [go_sem]); (first | refine FunPost.one ?_ | refine FunPost.two ?_ | refine FunPost.three ?_); (try simp (config := { maxSteps := 1000000 }) (disch := (first | omega | (simp only [go_sem]; try omega))) only [go_sem, Nat.reduceAdd, Nat.reduceEqDiff, Nat.reduceLeDiff, Nat.reduceMul, Nat.reduceLT, reduceIte, Int.reduceToNat, w64_id, cast_succ]); (first | (with_reducible refine GR.drop ?_ ?_; (simp only [go_sem, and_self, and_true, true_and, implies_true, List.take_succ_cons, List.take_zero])) | refine GR.of ?_); refine ⟨?_, rfl⟩; (try with_reducible rfl)
  rw [List.any_eq_not_all_not]
  simp only [Bool.not_not]
theorem l25Within_fn (part set : List Int) : PFn Try.prog f_spec_l25Within [ilS part, ilS set] (Bv (part.all set.contains)) := by
  intro H; refine ACalls.introB s_spec_l25Within (by simp) ?_; intro hB hA; unfold c_spec_l25Within; simp (config := { maxSteps := 1000000 }) (disch := (first | omega | (simp only [go_sem]; try omega))) only [go_sem, Nat.reduceAdd, Nat.reduceEqDiff, Nat.reduceLeDiff, Nat.reduceMul, Nat.reduceLT, reduceIte, Int.reduceToNat, w64_id, cast_succ]
  repeat (first | (with_reducible first | refine SW.seq ?_ | refine SW.block ?_ | refine SW.rowC ?_ | refine SW.skip ?_ | refine SW.exit ?_ | intro _ | refine And.intro (by omega) ?_) | simp (config := { maxSteps := 1000000 }) (disch := (first | omega | (simp only [go_sem]; try omega))) only [go_sem, Nat.reduceAdd, Nat.reduceEqDiff, Nat.reduceLeDiff, Nat.reduceMul, Nat.reduceLT, reduceIte, Int.reduceToNat, w64_id, cast_succ])
  refine SW.loopE (fun E0 H0 q E' H' => ∃ (pre post : List Int), part = pre ++ post ∧ q = post.length ∧ E' = aput E0 5 (I pre.length) ∧ H' = H0 ∧ pre.all set.contains = true) part.length ⟨[], part, rfl, rfl, rfl, rfl, rfl⟩ ?_
  rintro q E' H' ⟨pre, post, hq, rfl, rfl, rfl, ha⟩
  simp (config := { maxSteps := 1000000 }) (disch := (first | omega | (simp only [go_sem]; try omega))) only [go_sem, Nat.reduceAdd, Nat.reduceEqDiff, Nat.reduceLeDiff, Nat.reduceMul, Nat.reduceLT, reduceIte, Int.reduceToNat, w64_id, cast_succ]
  repeat (first | (with_reducible first | refine SW.seq ?_ | refine SW.block ?_ | refine SW.rowC ?_ | refine SW.skip ?_ | refine SW.exit ?_ | intro _ | refine And.intro (by omega) ?_) | simp (config := { maxSteps := 1000000 }) (disch := (first | omega | (simp only [go_sem]; try omega))) only [go_sem, Nat.reduceAdd, Nat.reduceEqDiff, Nat.reduceLeDiff, Nat.reduceMul, Nat.reduceLT, reduceIte, Int.reduceToNat, w64_id, cast_succ])
  (first | refine SW.condD rfl (fun h => ?_) (fun h => ?_) | refine SW.condN rfl (fun h => ?_) (fun h => ?_) | refine SW.condNB rfl (fun h => ?_) (fun h => ?_) | refine SW.condB rfl (fun h => ?_) (fun h => ?_))
  · obtain ⟨x, post, rfl, hg, -⟩ := consOf (d := 0) hq (by omega)
    repeat (first | (with_reducible first | refine SW.seq ?_ | refine SW.block ?_ | refine SW.rowC ?_ | refine SW.skip ?_ | refine SW.exit ?_ | refine PFn.use (l00Has_fn _ _) ?_ | refine PFn.useq (l00Has_fn _ _) ?_ | intro _ | refine And.intro (by omega) ?_) | simp (config := { maxSteps := 1000000 }) (disch := (first | omega | (simp only [go_sem]; try omega))) only [go_sem, Nat.reduceAdd, Nat.reduceEqDiff, Nat.reduceLeDiff, Nat.reduceMul, Nat.reduceLT, reduceIte, Int.reduceToNat, w64_id, cast_succ, hg])
    (first | refine SW.condD rfl (fun h2 => ?_) (fun h2 => ?_) | refine SW.condN rfl (fun h2 => ?_) (fun h2 => ?_) | refine SW.condNB rfl (fun h2 => ?_) (fun h2 => ?_) | refine SW.condB rfl (fun h2 => ?_) (fun h2 => ?_))
    · repeat (first | (with_reducible first | refine SW.seq ?_ | refine SW.block ?_ | refine SW.rowC ?_ | refine SW.skip ?_ | refine SW.exit ?_ | intro _ | refine And.intro (by omega) ?_) | simp (config := { maxSteps := 1000000 }) (disch := (first | omega | (simp only [go_sem]; try omega))) only [go_sem, Nat.reduceAdd, Nat.reduceEqDiff, Nat.reduceLeDiff, Nat.reduceMul, Nat.reduceLT, reduceIte, Int.reduceToNat, w64_id, cast_succ])
      refine SW.ret ?_; (try simp only [go_sem]); (first | refine FunPost.one ?_ | refine FunPost.two ?_ | refine FunPost.three ?_); (try simp (config := { maxSteps := 1000000 }) (disch := (first | omega | (simp only [go_sem]; try omega))) only [go_sem, Nat.reduceAdd, Nat.reduceEqDiff, Nat.reduceLeDiff, Nat.reduceMul, Nat.reduceLT, reduceIte, Int.reduceToNat, w64_id, cast_succ]); (first | (with_reducible refine GR.drop ?_ ?_; (simp only [go_sem, and_self, and_true, true_and, implies_true, List.take_succ_cons, List.take_zero])) | refine GR.of ?_); refine ⟨?_, rfl⟩; (try with_reducible rfl)
      rw [hq, List.all_append]; simp at h2; simp [h2]
    · repeat (first | (with_reducible first | refine SW.seq ?_ | refine SW.block ?_ | refine SW.rowC ?_ | refine SW.skip ?_ | refine SW.exit ?_ | intro _ | refine And.intro (by omega) ?_) | simp (config := { maxSteps := 1000000 }) (disch := (first | omega | (simp only [go_sem]; try omega))) only [go_sem, Nat.reduceAdd, Nat.reduceEqDiff, Nat.reduceLeDiff, Nat.reduceMul, Nat.reduceLT, reduceIte, Int.reduceToNat, w64_id, cast_succ])
      refine SLoop.next post.length (by simp) ⟨pre ++ [x], post, by simp [hq], rfl, ?_, rfl, ?_⟩
      · simp [go_sem]
      · rw [List.all_append, ha]; simp at h2; simp [h2]
  · obtain ⟨rfl, rfl⟩ := nilOf hq (by omega)
    repeat (first | (with_reducible first | refine SW.seq ?_ | refine SW.block ?_ | refine SW.rowC ?_ | refine SW.skip ?_ | refine SW.exit ?_ | intro _ | refine And.intro (by omega) ?_) | simp (config := { maxSteps := 1000000 }) (disch := (first | omega | (simp only [go_sem]; try omega))) only [go_sem, Nat.reduceAdd, Nat.reduceEqDiff, Nat.reduceLeDiff, Nat.reduceMul, Nat.reduceLT, reduceIte, Int.reduceToNat, w64_id, cast_succ])
    refine SW.ret ?_; (try simp only [go_sem]); (first | refine FunPost.one ?_ | refine FunPost.two ?_ | refine FunPost.three ?_); (try simp (config := { maxSteps := 1000000 }) (disch := (first | omega | (simp only [go_sem]; try omega))) only [go_sem, Nat.reduceAdd, Nat.reduceEqDiff, Nat.reduceLeDiff, Nat.reduceMul, Nat.reduceLT, reduceIte, Int.reduceToNat, w64_id, cast_succ]); (first | (with_reducible refine GR.drop ?_ ?_; (simp only [go_sem, and_self, and_true, true_and, implies_true, List.take_succ_cons, List.take_zero])) | refine GR.of ?_); refine ⟨?_, rfl⟩; (try with_reducible rfl)
    rw [ha]

def cntB (xss : List (List Int)) (set : List Int) : Int := (xss.countP fun b => set.all b.contains : Nat)
/-- The value that all have. -/
def sameV : List Int → Int
  | [] => 0
  | c :: r => if r.all (fun d => decide (d = c)) then c else 0
def firstV1 : List Int → Int
  | [] => -1
  | c :: _ => c
theorem sameV_bad {l r : List Int} {c : Int} (h : l ≠ []) (hc : c ≠ firstV1 l) : sameV (l ++ c :: r) = 0 := by
  cases l with
  | nil => exact absurd rfl h
  | cons a l => simp only [List.cons_append, sameV]; rw [if_neg]; simp; intro _ h2; exact absurd h2 hc
theorem sameV_good {l : List Int} (h : ∀ c ∈ l, c = firstV1 l) : sameV l = if l = [] then 0 else firstV1 l := by
  cases l with
  | nil => rfl
  | cons a l => simp only [sameV]; rw [if_pos (by simp; intro x hx; exact h x (by simp [hx])), if_neg (by simp)]; rfl
theorem firstV1_snoc {l : List Int} {c : Int} (h : l ≠ []) : firstV1 (l ++ [c]) = firstV1 l := by
  cases l with
  | nil => exact absurd rfl h
  | cons a l => rfl
def firstV0 : List Int → Int
  | [] => 0
  | c :: _ => c
theorem firstV0_eq (l : List Int) : firstV0 l = if l = [] then 0 else firstV1 l := by cases l <;> simp [firstV0, firstV1]
def tIdx (n : Nat) (xss : List (List Int)) (t : Nat) : Int := sameV ((subsN n t).map (cntB xss))
theorem cntB_snoc (pre : List (List Int)) (b set : List Int) : cntB (pre ++ [b]) set = cntB pre set + (if set.all b.contains then 1 else 0) := by
  simp only [cntB, List.countP_append, List.countP_singleton]; split <;> simp
theorem cntB_range (pre : List (List Int)) (set : List Int) (h : pre.length ≤ 128) : 0 ≤ cntB pre set ∧ cntB pre set ≤ 128 := by
  have := List.countP_le_length (p := fun b : List Int => set.all b.contains) (l := pre)
  unfold cntB; omega

theorem implTIdx_fn (n : Nat) (xss : List (List Int)) (t : Nat) (hn : n ≤ 32) (hl : xss.length ≤ 128) (ht : t ≤ 1000) : PFn Try.prog f_impl_tIndex [.agg [I n, ilSS xss], I t] (I (tIdx n xss t)) := by
  have hsub := subs_fn n t hn (by omega)
  have hsl : (subsN n t).length ≤ 4294967296 := by
    have h1 := ch_le n t
    have h2 : 2 ^ n ≤ 2 ^ 32 := Nat.pow_le_pow_right (by omega) hn
    unfold subsN; rw [subsL_len]; omega
  unfold tIdx
  generalize subsN n t = S at *
  intro H; refine ACalls.introB s_impl_tIndex (by simp) ?_; intro hB hA; unfold c_impl_tIndex; simp (config := { maxSteps := 1000000 }) (disch := (first | omega | (simp only [go_sem]; try omega))) only [go_sem, Nat.reduceAdd, Nat.reduceEqDiff, Nat.reduceLeDiff, Nat.reduceMul, Nat.reduceLT, reduceIte, Int.reduceToNat, w64_id, cast_succ]
  repeat (first | (with_reducible first | refine SW.seq ?_ | refine SW.block ?_ | refine SW.rowC ?_ | refine SW.skip ?_ | refine SW.exit ?_ | refine PFn.use (hsub) ?_ | refine PFn.useq (hsub) ?_ | intro _ | refine And.intro (by omega) ?_) | simp (config := { maxSteps := 1000000 }) (disch := (first | omega | (simp only [go_sem]; try omega))) only [go_sem, Nat.reduceAdd, Nat.reduceEqDiff, Nat.reduceLeDiff, Nat.reduceMul, Nat.reduceLT, reduceIte, Int.reduceToNat, w64_id, cast_succ])
  refine SW.loopE (fun E0 H0 q E' H' => ∃ (pre post : List (List Int)), S = pre ++ post ∧ q = post.length ∧ E' = aput (aput E0 16 (I pre.length)) 5 (I (firstV1 (pre.map (cntB xss)))) ∧ H' = H0 ∧ ∀ c ∈ pre.map (cntB xss), c = firstV1 (pre.map (cntB xss))) S.length ⟨[], S, rfl, rfl, rfl, rfl, by simp⟩ ?_
  rintro q E' H' ⟨pre, post, hq, rfl, rfl, rfl, hall⟩
  simp (config := { maxSteps := 1000000 }) (disch := (first | omega | (simp only [go_sem]; try omega))) only [go_sem, Nat.reduceAdd, Nat.reduceEqDiff, Nat.reduceLeDiff, Nat.reduceMul, Nat.reduceLT, reduceIte, Int.reduceToNat, w64_id, cast_succ]
  repeat (first | (with_reducible first | refine SW.seq ?_ | refine SW.block ?_ | refine SW.rowC ?_ | refine SW.skip ?_ | refine SW.exit ?_ | intro _ | refine And.intro (by omega) ?_) | simp (config := { maxSteps := 1000000 }) (disch := (first | omega | (simp only [go_sem]; try omega))) only [go_sem, Nat.reduceAdd, Nat.reduceEqDiff, Nat.reduceLeDiff, Nat.reduceMul, Nat.reduceLT, reduceIte, Int.reduceToNat, w64_id, cast_succ])
  (first | refine SW.condD rfl (fun h => ?_) (fun h => ?_) | refine SW.condN rfl (fun h => ?_) (fun h => ?_) | refine SW.condNB rfl (fun h => ?_) (fun h => ?_) | refine SW.condB rfl (fun h => ?_) (fun h => ?_))
  · obtain ⟨set, post, rfl, hg, -⟩ := consOf (d := []) hq (by omega)
    repeat (first | (with_reducible first | refine SW.seq ?_ | refine SW.block ?_ | refine SW.rowC ?_ | refine SW.skip ?_ | refine SW.exit ?_ | intro _ | refine And.intro (by omega) ?_) | simp (config := { maxSteps := 1000000 }) (disch := (first | omega | (simp only [go_sem]; try omega))) only [go_sem, Nat.reduceAdd, Nat.reduceEqDiff, Nat.reduceLeDiff, Nat.reduceMul, Nat.reduceLT, reduceIte, Int.reduceToNat, w64_id, cast_succ, hg])
    refine SW.loopE (fun E0 H0 q E' H' => ∃ (p1 p2 : List (List Int)), xss = p1 ++ p2 ∧ q = p2.length ∧ E' = aput (aput E0 23 (I p1.length)) 8 (I (cntB p1 set)) ∧ H' = H0) xss.length ⟨[], xss, rfl, rfl, rfl, rfl⟩ ?_
    rintro q E' H' ⟨p1, p2, hq2, rfl, rfl, rfl⟩
    have hcr := cntB_range p1 set (by rw [hq2] at hl; simp at hl; omega)
    have hsn := fun b => cntB_snoc p1 b set
    generalize hc0 : cntB p1 set = c at *
    simp (config := { maxSteps := 1000000 }) (disch := (first | omega | (simp only [go_sem]; try omega))) only [go_sem, Nat.reduceAdd, Nat.reduceEqDiff, Nat.reduceLeDiff, Nat.reduceMul, Nat.reduceLT, reduceIte, Int.reduceToNat, w64_id, cast_succ]
    repeat (first | (with_reducible first | refine SW.seq ?_ | refine SW.block ?_ | refine SW.rowC ?_ | refine SW.skip ?_ | refine SW.exit ?_ | intro _ | refine And.intro (by omega) ?_) | simp (config := { maxSteps := 1000000 }) (disch := (first | omega | (simp only [go_sem]; try omega))) only [go_sem, Nat.reduceAdd, Nat.reduceEqDiff, Nat.reduceLeDiff, Nat.reduceMul, Nat.reduceLT, reduceIte, Int.reduceToNat, w64_id, cast_succ])
    (first | refine SW.condD rfl (fun h2 => ?_) (fun h2 => ?_) | refine SW.condN rfl (fun h2 => ?_) (fun h2 => ?_) | refine SW.condNB rfl (fun h2 => ?_) (fun h2 => ?_) | refine SW.condB rfl (fun h2 => ?_) (fun h2 => ?_))
    · obtain ⟨b, p2, rfl, hgb, -⟩ := consOf (d := []) hq2 (by omega)
      repeat (first | (with_reducible first | refine SW.seq ?_ | refine SW.block ?_ | refine SW.rowC ?_ | refine SW.skip ?_ | refine SW.exit ?_ | refine PFn.use (contains_fn _ _) ?_ | refine PFn.useq (contains_fn _ _) ?_ | intro _ | refine And.intro (by omega) ?_) | simp (config := { maxSteps := 1000000 }) (disch := (first | omega | (simp only [go_sem]; try omega))) only [go_sem, Nat.reduceAdd, Nat.reduceEqDiff, Nat.reduceLeDiff, Nat.reduceMul, Nat.reduceLT, reduceIte, Int.reduceToNat, w64_id, cast_succ, hgb])
      (first | refine SW.condD rfl (fun h3 => ?_) (fun h3 => ?_) | refine SW.condN rfl (fun h3 => ?_) (fun h3 => ?_) | refine SW.condNB rfl (fun h3 => ?_) (fun h3 => ?_) | refine SW.condB rfl (fun h3 => ?_) (fun h3 => ?_))
      · repeat (first | (with_reducible first | refine SW.seq ?_ | refine SW.block ?_ | refine SW.rowC ?_ | refine SW.skip ?_ | refine SW.exit ?_ | intro _ | refine And.intro (by omega) ?_) | simp (config := { maxSteps := 1000000 }) (disch := (first | omega | (simp only [go_sem]; try omega))) only [go_sem, Nat.reduceAdd, Nat.reduceEqDiff, Nat.reduceLeDiff, Nat.reduceMul, Nat.reduceLT, reduceIte, Int.reduceToNat, w64_id, cast_succ])
        refine SLoop.next p2.length (by simp) ⟨p1 ++ [b], p2, by simp [hq2], rfl, ?_, rfl⟩
        rw [hsn, if_pos h3]; simp [go_sem]
      · repeat (first | (with_reducible first | refine SW.seq ?_ | refine SW.block ?_ | refine SW.rowC ?_ | refine SW.skip ?_ | refine SW.exit ?_ | intro _ | refine And.intro (by omega) ?_) | simp (config := { maxSteps := 1000000 }) (disch := (first | omega | (simp only [go_sem]; try omega))) only [go_sem, Nat.reduceAdd, Nat.reduceEqDiff, Nat.reduceLeDiff, Nat.reduceMul, Nat.reduceLT, reduceIte, Int.reduceToNat, w64_id, cast_succ])
        refine SLoop.next p2.length (by simp) ⟨p1 ++ [b], p2, by simp [hq2], rfl, ?_, rfl⟩
        rw [hsn, if_neg (by simpa using h3)]; simp [go_sem]
    · obtain ⟨rfl, rfl⟩ := nilOf hq2 (by omega)
      repeat (first | (with_reducible first | refine SW.seq ?_ | refine SW.block ?_ | refine SW.rowC ?_ | refine SW.skip ?_ | refine SW.exit ?_ | intro _ | refine And.intro (by omega) ?_) | simp (config := { maxSteps := 1000000 }) (disch := (first | omega | (simp only [go_sem]; try omega))) only [go_sem, Nat.reduceAdd, Nat.reduceEqDiff, Nat.reduceLeDiff, Nat.reduceMul, Nat.reduceLT, reduceIte, Int.reduceToNat, w64_id, cast_succ])
      have hP : (pre ++ [set]).map (cntB p1) = pre.map (cntB p1) ++ [c] := by simp [hc0]
      have hT : S.map (cntB p1) = pre.map (cntB p1) ++ c :: post.map (cntB p1) := by rw [hq]; simp [hc0]
      have hnil : pre.map (cntB p1) = [] → pre = [] := fun h => List.map_eq_nil_iff.1 h
      have hf0 : ∀ d ∈ pre.map (cntB p1), 0 ≤ d := by
        intro d hd
        obtain ⟨s, _, rfl⟩ := List.mem_map.1 hd
        exact (cntB_range p1 s hl).1
      have next : (pre.map (cntB p1) ≠ [] → c = firstV1 (pre.map (cntB p1))) → I c = I (firstV1 ((pre ++ [set]).map (cntB p1))) ∧ ∀ d ∈ (pre ++ [set]).map (cntB p1), d = firstV1 ((pre ++ [set]).map (cntB p1)) := by
        intro h3
        rw [hP]
        generalize pre.map (cntB p1) = P at *
        cases P with
        | nil => exact ⟨rfl, by simp [firstV1]⟩
        | cons a P =>
          have h4 : c = a := h3 (by simp)
          subst h4
          refine ⟨rfl, ?_⟩
          intro d hd
          simp only [List.cons_append, List.mem_cons, List.mem_append, List.mem_singleton, List.not_mem_nil, or_false] at hd
          rcases hd with hd | hd | hd
          · exact hd
          · exact hall d (by simp [hd])
          · exact hd
      (first | refine GSplit.df (fun h3 => ?_) (fun h3 => ?_) | refine GSplit.dt (fun h3 => ?_) (fun h3 => ?_) | refine GSplit.ndf (fun h3 => ?_) (fun h3 => ?_) | refine GSplit.ndt (fun h3 => ?_) (fun h3 => ?_) | refine GSplit.nbf (fun h3 => ?_) (fun h3 => ?_) | refine GSplit.nbt (fun h3 => ?_) (fun h3 => ?_) | refine GSplit.bf (fun h3 => ?_) (fun h3 => ?_) | refine GSplit.bt (fun h3 => ?_) (fun h3 => ?_))
      · have hne : pre.map (cntB p1) ≠ [] := by intro h4; rw [h4] at h3; simp [firstV1] at h3
        (first | refine SW.condD rfl (fun h4 => ?_) (fun h4 => ?_) | refine SW.condN rfl (fun h4 => ?_) (fun h4 => ?_) | refine SW.condNB rfl (fun h4 => ?_) (fun h4 => ?_) | refine SW.condB rfl (fun h4 => ?_) (fun h4 => ?_))
        · repeat (first | (with_reducible first | refine SW.seq ?_ | refine SW.block ?_ | refine SW.rowC ?_ | refine SW.skip ?_ | refine SW.exit ?_ | intro _ | refine And.intro (by omega) ?_) | simp (config := { maxSteps := 1000000 }) (disch := (first | omega | (simp only [go_sem]; try omega))) only [go_sem, Nat.reduceAdd, Nat.reduceEqDiff, Nat.reduceLeDiff, Nat.reduceMul, Nat.reduceLT, reduceIte, Int.reduceToNat, w64_id, cast_succ])
          refine SW.ret ?_; (try simp only [go_sem]); (first | refine FunPost.one ?_ | refine FunPost.two ?_ | refine FunPost.three ?_); (try simp (config := { maxSteps := 1000000 }) (disch := (first | omega | (simp only [go_sem]; try omega))) only [go_sem, Nat.reduceAdd, Nat.reduceEqDiff, Nat.reduceLeDiff, Nat.reduceMul, Nat.reduceLT, reduceIte, Int.reduceToNat, w64_id, cast_succ]); (first | (with_reducible refine GR.drop ?_ ?_; (simp only [go_sem, and_self, and_true, true_and, implies_true, List.take_succ_cons, List.take_zero])) | refine GR.of ?_); refine ⟨?_, rfl⟩; (try with_reducible rfl)
          rw [hT, sameV_bad hne h4]
        · repeat (first | (with_reducible first | refine SW.seq ?_ | refine SW.block ?_ | refine SW.rowC ?_ | refine SW.skip ?_ | refine SW.exit ?_ | intro _ | refine And.intro (by omega) ?_) | simp (config := { maxSteps := 1000000 }) (disch := (first | omega | (simp only [go_sem]; try omega))) only [go_sem, Nat.reduceAdd, Nat.reduceEqDiff, Nat.reduceLeDiff, Nat.reduceMul, Nat.reduceLT, reduceIte, Int.reduceToNat, w64_id, cast_succ])
          obtain ⟨n1, n2⟩ := next (fun _ => h4)
          refine SLoop.next post.length (by simp) ⟨pre ++ [set], post, by simp [hq], rfl, ?_, rfl, n2⟩
          rw [← n1]; simp [go_sem]
      · have he : pre.map (cntB p1) = [] := by
          cases hp : pre.map (cntB p1) with
          | nil => rfl
          | cons a P => exfalso; have := hf0 a (by rw [hp]; simp); rw [hp] at h3; simp only [firstV1] at h3; omega
        (first | refine SW.condD rfl (fun h4 => ?_) (fun h4 => ?_) | refine SW.condN rfl (fun h4 => ?_) (fun h4 => ?_) | refine SW.condNB rfl (fun h4 => ?_) (fun h4 => ?_) | refine SW.condB rfl (fun h4 => ?_) (fun h4 => ?_))
        · cases h4
        repeat (first | (with_reducible first | refine SW.seq ?_ | refine SW.block ?_ | refine SW.rowC ?_ | refine SW.skip ?_ | refine SW.exit ?_ | intro _ | refine And.intro (by omega) ?_) | simp (config := { maxSteps := 1000000 }) (disch := (first | omega | (simp only [go_sem]; try omega))) only [go_sem, Nat.reduceAdd, Nat.reduceEqDiff, Nat.reduceLeDiff, Nat.reduceMul, Nat.reduceLT, reduceIte, Int.reduceToNat, w64_id, cast_succ])
        obtain ⟨n1, n2⟩ := next (fun h => absurd he h)
        refine SLoop.next post.length (by simp) ⟨pre ++ [set], post, by simp [hq], rfl, ?_, rfl, n2⟩
        rw [← n1]; simp [go_sem]
  · obtain ⟨rfl, rfl⟩ := nilOf hq (by omega)
    have hf0 : ∀ d ∈ pre.map (cntB xss), 0 ≤ d := by
      intro d hd
      obtain ⟨s, _, rfl⟩ := List.mem_map.1 hd
      exact (cntB_range xss s hl).1
    repeat (first | (with_reducible first | refine SW.seq ?_ | refine SW.block ?_ | refine SW.rowC ?_ | refine SW.skip ?_ | refine SW.exit ?_ | intro _ | refine And.intro (by omega) ?_) | simp (config := { maxSteps := 1000000 }) (disch := (first | omega | (simp only [go_sem]; try omega))) only [go_sem, Nat.reduceAdd, Nat.reduceEqDiff, Nat.reduceLeDiff, Nat.reduceMul, Nat.reduceLT, reduceIte, Int.reduceToNat, w64_id, cast_succ])
    refine SW.ret ?_; (try simp only [go_sem]); (first | refine FunPost.one ?_ | refine FunPost.two ?_ | refine FunPost.three ?_); (try simp (config := { maxSteps := 1000000 }) (disch := (first | omega | (simp only [go_sem]; try omega))) only [go_sem, Nat.reduceAdd, Nat.reduceEqDiff, Nat.reduceLeDiff, Nat.reduceMul, Nat.reduceLT, reduceIte, Int.reduceToNat, w64_id, cast_succ]); (first | (with_reducible refine GR.drop ?_ ?_; (simp only [go_sem, and_self, and_true, true_and, implies_true, List.take_succ_cons, List.take_zero])) | refine GR.of ?_); refine ⟨?_, rfl⟩; (try with_reducible rfl)
    rw [sameV_good hall]
    generalize pre.map (cntB xss) = P at *
    cases P with
    | nil => rfl
    | cons a P =>
      have := hf0 a (by simp)
      have e : firstV1 (a :: P) = a := rfl
      rw [e, if_neg (by omega), if_neg (by simp)]

theorem l26Index_ok (H : List Blk) (p : Nat) (n : Nat) (xss : List (List Int)) (t : Nat) (hn : n ≤ 32) (hl : xss.length ≤ 128) (ht : t ≤ 1000) (hp : H[p]? = some ⟨0, tyD, 1, [I n, ilSS xss]⟩) :
    ACalls Try.prog f_spec_l26Index [.pc p 0 0, I t] H (fun r H' => r = I (tIdx n xss t) ∧ H' = H) := by
  have hsub := fun R h => subset_fn n t R hn (by omega) h
  have hch : chooseI n t = ch n t := by rw [chooseI_any n t hn, if_pos (by omega)]; rfl
  have hcs := specChoose_fn n t
  rw [hch] at hcs
  have hcl : ch n t ≤ 4294967296 := by
    have h1 := ch_le n t
    have h2 : 2 ^ n ≤ 2 ^ 32 := Nat.pow_le_pow_right (by omega) hn
    omega
  have hSl : (subsN n t).length = ch n t := subsL_len n 0 t
  unfold tIdx
  rw [← hSl] at hcs hsub hcl
  clear hch hSl
  generalize subsN n t = S at *
  refine ACalls.introB s_spec_l26Index (by simp) ?_; intro hB hA; unfold c_spec_l26Index; simp (config := { maxSteps := 1000000 }) (disch := (first | omega | (simp only [go_sem]; try omega))) only [go_sem, Nat.reduceAdd, Nat.reduceEqDiff, Nat.reduceLeDiff, Nat.reduceMul, Nat.reduceLT, reduceIte, Int.reduceToNat, w64_id, cast_succ]
  repeat (first | (with_reducible first | refine SW.seq ?_ | refine SW.block ?_ | refine SW.rowC ?_ | refine SW.skip ?_ | refine SW.exit ?_ | refine PFn.use (hcs) ?_ | refine PFn.useq (hcs) ?_ | intro _ | refine And.intro (by omega) ?_) | simp (config := { maxSteps := 1000000 }) (disch := (first | omega | (simp only [go_sem]; try omega))) only [go_sem, Nat.reduceAdd, Nat.reduceEqDiff, Nat.reduceLeDiff, Nat.reduceMul, Nat.reduceLT, reduceIte, Int.reduceToNat, w64_id, cast_succ, pc_ld hp, pc_alive hp])
  refine SW.loopE (fun E0 H0 q E' H' => ∃ (pre post : List (List Int)), S = pre ++ post ∧ q = post.length ∧ E' = aput (aput E0 7 (I pre.length)) 6 (I (firstV0 (pre.map (cntB xss)))) ∧ H' = H0 ∧ ∀ c ∈ pre.map (cntB xss), c = firstV1 (pre.map (cntB xss))) S.length ⟨[], S, rfl, rfl, rfl, rfl, by simp⟩ ?_
  rintro q E' H' ⟨pre, post, hq, rfl, rfl, rfl, hall⟩
  simp (config := { maxSteps := 1000000 }) (disch := (first | omega | (simp only [go_sem]; try omega))) only [go_sem, Nat.reduceAdd, Nat.reduceEqDiff, Nat.reduceLeDiff, Nat.reduceMul, Nat.reduceLT, reduceIte, Int.reduceToNat, w64_id, cast_succ]
  repeat (first | (with_reducible first | refine SW.seq ?_ | refine SW.block ?_ | refine SW.rowC ?_ | refine SW.skip ?_ | refine SW.exit ?_ | intro _ | refine And.intro (by omega) ?_) | simp (config := { maxSteps := 1000000 }) (disch := (first | omega | (simp only [go_sem]; try omega))) only [go_sem, Nat.reduceAdd, Nat.reduceEqDiff, Nat.reduceLeDiff, Nat.reduceMul, Nat.reduceLT, reduceIte, Int.reduceToNat, w64_id, cast_succ])
  (first | refine SW.condD rfl (fun h => ?_) (fun h => ?_) | refine SW.condN rfl (fun h => ?_) (fun h => ?_) | refine SW.condNB rfl (fun h => ?_) (fun h => ?_) | refine SW.condB rfl (fun h => ?_) (fun h => ?_))
  · have hlt : pre.length < S.length := by omega
    obtain ⟨set, post, rfl, hg, -⟩ := consOf (d := []) hq hlt
    have hsb := hsub pre.length hlt
    rw [hg] at hsb
    repeat (first | (with_reducible first | refine SW.seq ?_ | refine SW.block ?_ | refine SW.rowC ?_ | refine SW.skip ?_ | refine SW.exit ?_ | refine PFn.use (hsb) ?_ | refine PFn.useq (hsb) ?_ | intro _ | refine And.intro (by omega) ?_) | simp (config := { maxSteps := 1000000 }) (disch := (first | omega | (simp only [go_sem]; try omega))) only [go_sem, Nat.reduceAdd, Nat.reduceEqDiff, Nat.reduceLeDiff, Nat.reduceMul, Nat.reduceLT, reduceIte, Int.reduceToNat, w64_id, cast_succ, pc_ld hp, pc_alive hp])
    refine SW.loopE (fun E0 H0 q E' H' => ∃ (p1 p2 : List (List Int)), xss = p1 ++ p2 ∧ q = p2.length ∧ E' = aput (aput E0 10 (I p1.length)) 9 (I (cntB p1 set)) ∧ H' = H0) xss.length ⟨[], xss, rfl, rfl, rfl, rfl⟩ ?_
    rintro q E' H' ⟨p1, p2, hq2, rfl, rfl, rfl⟩
    have hcr := cntB_range p1 set (by rw [hq2] at hl; simp at hl; omega)
    have hsn := fun b => cntB_snoc p1 b set
    generalize hc0 : cntB p1 set = c at *
    simp (config := { maxSteps := 1000000 }) (disch := (first | omega | (simp only [go_sem]; try omega))) only [go_sem, Nat.reduceAdd, Nat.reduceEqDiff, Nat.reduceLeDiff, Nat.reduceMul, Nat.reduceLT, reduceIte, Int.reduceToNat, w64_id, cast_succ]
    repeat (first | (with_reducible first | refine SW.seq ?_ | refine SW.block ?_ | refine SW.rowC ?_ | refine SW.skip ?_ | refine SW.exit ?_ | intro _ | refine And.intro (by omega) ?_) | simp (config := { maxSteps := 1000000 }) (disch := (first | omega | (simp only [go_sem]; try omega))) only [go_sem, Nat.reduceAdd, Nat.reduceEqDiff, Nat.reduceLeDiff, Nat.reduceMul, Nat.reduceLT, reduceIte, Int.reduceToNat, w64_id, cast_succ, pc_ld hp, pc_alive hp])
    (first | refine SW.condD rfl (fun h2 => ?_) (fun h2 => ?_) | refine SW.condN rfl (fun h2 => ?_) (fun h2 => ?_) | refine SW.condNB rfl (fun h2 => ?_) (fun h2 => ?_) | refine SW.condB rfl (fun h2 => ?_) (fun h2 => ?_))
    · obtain ⟨b, p2, rfl, hgb, -⟩ := consOf (d := []) hq2 (by omega)
      repeat (first | (with_reducible first | refine SW.seq ?_ | refine SW.block ?_ | refine SW.rowC ?_ | refine SW.skip ?_ | refine SW.exit ?_ | refine PFn.use (l25Within_fn _ _) ?_ | refine PFn.useq (l25Within_fn _ _) ?_ | intro _ | refine And.intro (by omega) ?_) | simp (config := { maxSteps := 1000000 }) (disch := (first | omega | (simp only [go_sem]; try omega))) only [go_sem, Nat.reduceAdd, Nat.reduceEqDiff, Nat.reduceLeDiff, Nat.reduceMul, Nat.reduceLT, reduceIte, Int.reduceToNat, w64_id, cast_succ, hgb, pc_ld hp, pc_alive hp])
      (first | refine SW.condD rfl (fun h3 => ?_) (fun h3 => ?_) | refine SW.condN rfl (fun h3 => ?_) (fun h3 => ?_) | refine SW.condNB rfl (fun h3 => ?_) (fun h3 => ?_) | refine SW.condB rfl (fun h3 => ?_) (fun h3 => ?_))
      · repeat (first | (with_reducible first | refine SW.seq ?_ | refine SW.block ?_ | refine SW.rowC ?_ | refine SW.skip ?_ | refine SW.exit ?_ | intro _ | refine And.intro (by omega) ?_) | simp (config := { maxSteps := 1000000 }) (disch := (first | omega | (simp only [go_sem]; try omega))) only [go_sem, Nat.reduceAdd, Nat.reduceEqDiff, Nat.reduceLeDiff, Nat.reduceMul, Nat.reduceLT, reduceIte, Int.reduceToNat, w64_id, cast_succ])
        refine SLoop.next p2.length (by simp) ⟨p1 ++ [b], p2, by simp [hq2], rfl, ?_, rfl⟩
        rw [hsn, if_pos h3]; simp [go_sem]
      · repeat (first | (with_reducible first | refine SW.seq ?_ | refine SW.block ?_ | refine SW.rowC ?_ | refine SW.skip ?_ | refine SW.exit ?_ | intro _ | refine And.intro (by omega) ?_) | simp (config := { maxSteps := 1000000 }) (disch := (first | omega | (simp only [go_sem]; try omega))) only [go_sem, Nat.reduceAdd, Nat.reduceEqDiff, Nat.reduceLeDiff, Nat.reduceMul, Nat.reduceLT, reduceIte, Int.reduceToNat, w64_id, cast_succ])
        refine SLoop.next p2.length (by simp) ⟨p1 ++ [b], p2, by simp [hq2], rfl, ?_, rfl⟩
        rw [hsn, if_neg (by simpa using h3)]; simp [go_sem]
    · obtain ⟨rfl, rfl⟩ := nilOf hq2 (by omega)
      repeat (first | (with_reducible first | refine SW.seq ?_ | refine SW.block ?_ | refine SW.rowC ?_ | refine SW.skip ?_ | refine SW.exit ?_ | intro _ | refine And.intro (by omega) ?_) | simp (config := { maxSteps := 1000000 }) (disch := (first | omega | (simp only [go_sem]; try omega))) only [go_sem, Nat.reduceAdd, Nat.reduceEqDiff, Nat.reduceLeDiff, Nat.reduceMul, Nat.reduceLT, reduceIte, Int.reduceToNat, w64_id, cast_succ])
      have hP : (pre ++ [set]).map (cntB p1) = pre.map (cntB p1) ++ [c] := by simp [hc0]
      have hT : S.map (cntB p1) = pre.map (cntB p1) ++ c :: post.map (cntB p1) := by rw [hq]; simp [hc0]
      have hnil : pre.map (cntB p1) = [] → pre = [] := fun h => List.map_eq_nil_iff.1 h
      have hf0 : ∀ d ∈ pre.map (cntB p1), 0 ≤ d := by
        intro d hd
        obtain ⟨s, _, rfl⟩ := List.mem_map.1 hd
        exact (cntB_range p1 s hl).1
      have next : (pre.map (cntB p1) ≠ [] → c = firstV1 (pre.map (cntB p1))) → I c = I (firstV1 ((pre ++ [set]).map (cntB p1))) ∧ ∀ d ∈ (pre ++ [set]).map (cntB p1), d = firstV1 ((pre ++ [set]).map (cntB p1)) := by
        intro h3
        rw [hP]
        generalize pre.map (cntB p1) = P at *
        cases P with
        | nil => exact ⟨rfl, by simp [firstV1]⟩
        | cons a P =>
          have h4 : c = a := h3 (by simp)
          subst h4
          refine ⟨rfl, ?_⟩
          intro d hd
          simp only [List.cons_append, List.mem_cons, List.mem_append, List.mem_singleton, List.not_mem_nil, or_false] at hd
          rcases hd with hd | hd | hd
          · exact hd
          · exact hall d (by simp [hd])
          · exact hd
      (first | refine GSplit.df (fun h3 => ?_) (fun h3 => ?_) | refine GSplit.dt (fun h3 => ?_) (fun h3 => ?_) | refine GSplit.ndf (fun h3 => ?_) (fun h3 => ?_) | refine GSplit.ndt (fun h3 => ?_) (fun h3 => ?_) | refine GSplit.nbf (fun h3 => ?_) (fun h3 => ?_) | refine GSplit.nbt (fun h3 => ?_) (fun h3 => ?_) | refine GSplit.bf (fun h3 => ?_) (fun h3 => ?_) | refine GSplit.bt (fun h3 => ?_) (fun h3 => ?_))
      · have hne : pre.map (cntB p1) ≠ [] := by intro h4; rw [hnil h4] at h3; simp at h3
        have e0 : firstV0 (pre.map (cntB p1)) = firstV1 (pre.map (cntB p1)) := by rw [firstV0_eq, if_neg hne]
        (first | refine SW.condD rfl (fun h4 => ?_) (fun h4 => ?_) | refine SW.condN rfl (fun h4 => ?_) (fun h4 => ?_) | refine SW.condNB rfl (fun h4 => ?_) (fun h4 => ?_) | refine SW.condB rfl (fun h4 => ?_) (fun h4 => ?_))
        · repeat (first | (with_reducible first | refine SW.seq ?_ | refine SW.block ?_ | refine SW.rowC ?_ | refine SW.skip ?_ | refine SW.exit ?_ | intro _ | refine And.intro (by omega) ?_) | simp (config := { maxSteps := 1000000 }) (disch := (first | omega | (simp only [go_sem]; try omega))) only [go_sem, Nat.reduceAdd, Nat.reduceEqDiff, Nat.reduceLeDiff, Nat.reduceMul, Nat.reduceLT, reduceIte, Int.reduceToNat, w64_id, cast_succ])
          refine SW.ret ?_; (try simp only [go_sem]); (first | refine FunPost.one ?_ | refine FunPost.two ?_ | refine FunPost.three ?_); (try simp (config := { maxSteps := 1000000 }) (disch := (first | omega | (simp only [go_sem]; try omega))) only [go_sem, Nat.reduceAdd, Nat.reduceEqDiff, Nat.reduceLeDiff, Nat.reduceMul, Nat.reduceLT, reduceIte, Int.reduceToNat, w64_id, cast_succ]); (first | (with_reducible refine GR.drop ?_ ?_; (simp only [go_sem, and_self, and_true, true_and, implies_true, List.take_succ_cons, List.take_zero])) | refine GR.of ?_); refine ⟨?_, rfl⟩; (try with_reducible rfl)
          rw [hT, sameV_bad hne (by rw [← e0]; exact h4)]
        · repeat (first | (with_reducible first | refine SW.seq ?_ | refine SW.block ?_ | refine SW.rowC ?_ | refine SW.skip ?_ | refine SW.exit ?_ | intro _ | refine And.intro (by omega) ?_) | simp (config := { maxSteps := 1000000 }) (disch := (first | omega | (simp only [go_sem]; try omega))) only [go_sem, Nat.reduceAdd, Nat.reduceEqDiff, Nat.reduceLeDiff, Nat.reduceMul, Nat.reduceLT, reduceIte, Int.reduceToNat, w64_id, cast_succ])
          obtain ⟨n1, n2⟩ := next (fun _ => by rw [← e0]; exact h4)
          refine SLoop.next post.length (by simp) ⟨pre ++ [set], post, by simp [hq], rfl, ?_, rfl, n2⟩
          have e1 : firstV0 ((pre ++ [set]).map (cntB p1)) = firstV1 ((pre ++ [set]).map (cntB p1)) := by rw [firstV0_eq, if_neg (by simp)]
          rw [e1, ← n1]; simp [go_sem]
      · have hpe : pre = [] := by
          cases pre with
          | nil => rfl
          | cons a P => exfalso; simp at h3
        have he : pre.map (cntB p1) = [] := by rw [hpe]; rfl
        (first | refine SW.condD rfl (fun h4 => ?_) (fun h4 => ?_) | refine SW.condN rfl (fun h4 => ?_) (fun h4 => ?_) | refine SW.condNB rfl (fun h4 => ?_) (fun h4 => ?_) | refine SW.condB rfl (fun h4 => ?_) (fun h4 => ?_))
        · cases h4
        repeat (first | (with_reducible first | refine SW.seq ?_ | refine SW.block ?_ | refine SW.rowC ?_ | refine SW.skip ?_ | refine SW.exit ?_ | intro _ | refine And.intro (by omega) ?_) | simp (config := { maxSteps := 1000000 }) (disch := (first | omega | (simp only [go_sem]; try omega))) only [go_sem, Nat.reduceAdd, Nat.reduceEqDiff, Nat.reduceLeDiff, Nat.reduceMul, Nat.reduceLT, reduceIte, Int.reduceToNat, w64_id, cast_succ])
        obtain ⟨n1, n2⟩ := next (fun h => absurd he h)
        refine SLoop.next post.length (by simp) ⟨pre ++ [set], post, by simp [hq], rfl, ?_, rfl, n2⟩
        have e1 : firstV0 ((pre ++ [set]).map (cntB p1)) = firstV1 ((pre ++ [set]).map (cntB p1)) := by rw [firstV0_eq, if_neg (by simp)]
        rw [e1, ← n1]; simp [go_sem]
  · obtain ⟨rfl, rfl⟩ := nilOf hq (by omega)
    repeat (first | (with_reducible first | refine SW.seq ?_ | refine SW.block ?_ | refine SW.rowC ?_ | refine SW.skip ?_ | refine SW.exit ?_ | intro _ | refine And.intro (by omega) ?_) | simp (config := { maxSteps := 1000000 }) (disch := (first | omega | (simp only [go_sem]; try omega))) only [go_sem, Nat.reduceAdd, Nat.reduceEqDiff, Nat.reduceLeDiff, Nat.reduceMul, Nat.reduceLT, reduceIte, Int.reduceToNat, w64_id, cast_succ])
    refine SW.ret ?_; (try simp only [go_sem]); (first | refine FunPost.one ?_ | refine FunPost.two ?_ | refine FunPost.three ?_); (try simp (config := { maxSteps := 1000000 }) (disch := (first | omega | (simp only [go_sem]; try omega))) only [go_sem, Nat.reduceAdd, Nat.reduceEqDiff, Nat.reduceLeDiff, Nat.reduceMul, Nat.reduceLT, reduceIte, Int.reduceToNat, w64_id, cast_succ]); (first | (with_reducible refine GR.drop ?_ ?_; (simp only [go_sem, and_self, and_true, true_and, implies_true, List.take_succ_cons, List.take_zero])) | refine GR.of ?_); refine ⟨?_, rfl⟩; (try with_reducible rfl)
    rw [sameV_good hall, firstV0_eq]
end Go.Proofs.Ytkpohapopokahaa
