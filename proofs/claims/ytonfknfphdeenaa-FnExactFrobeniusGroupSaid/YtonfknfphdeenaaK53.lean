/- Frobenius groups. -/
import Derived.Test.YtonfknfphdeenaaProg
import Derived.KernelRfl
import Derived.Test.YtonfknfphdeenaaK52
set_option linter.unusedSimpArgs false
set_option linter.unusedVariables false
set_option maxHeartbeats 4000000
set_option maxRecDepth 100000
namespace Go.Proofs.Ytonfknfphdeenaa
open Go.Av

/-! The abstract code of functions, printed by program and tied to the program by the kernel. -/
/-- loop.example/g00920/spec.FrobeniusGroup -/
abbrev f_spec_FrobeniusGroup : Nat := 16
def c_spec_FrobeniusGroup : SC :=
 .seq (.reg [
     ⟨(some 4), .alloc 24 [(.int .i64 0), (.slice none 0 0)], none⟩,
     ⟨(some 5), .mv (.const (.int .i64 0)), none⟩] [0, 1, 4])
 (.seq (.seq (.reg [
     ⟨(some 8), .mv (.tmp 0), none⟩,
     ⟨(some 9), .call 51 [(.tmp 8)], none⟩,
     ⟨(some 10), .un .not (.tmp 9), none⟩,
     ⟨(some 11), .mv (.tmp 10), none⟩,
     ⟨(some 12), .mv (.tmp 0), (some (11, false))⟩,
     ⟨(some 13), .bin .gtr (.tmp 12) (.const (.int .i64 32)), (some (11, false))⟩,
     ⟨(some 14), .pick (.tmp 11) (.const (.bool true)) (.tmp 13), none⟩,
     ⟨(some 15), .mv (.tmp 14), none⟩,
     ⟨(some 16), .mv (.tmp 1), (some (15, false))⟩,
     ⟨(some 17), .mv (.tmp 0), (some (15, false))⟩,
     ⟨(some 18), .bin .sub (.tmp 17) (.const (.int .i64 1)), (some (15, false))⟩,
     ⟨(some 19), .call 47 [(.tmp 16), (.const (.int .i64 1)), (.tmp 18)], (some (15, false))⟩,
     ⟨(some 20), .un .not (.tmp 19), (some (15, false))⟩,
     ⟨(some 21), .pick (.tmp 15) (.const (.bool true)) (.tmp 20), none⟩,
     ⟨(some 22), .mv (.tmp 21), none⟩,
     ⟨(some 23), .mv (.tmp 0), (some (22, false))⟩,
     ⟨(some 24), .bin .sub (.tmp 23) (.const (.int .i64 1)), (some (22, false))⟩,
     ⟨(some 25), .mv (.tmp 1), (some (22, false))⟩,
     ⟨(some 26), .bin .rem (.tmp 24) (.tmp 25), (some (22, false))⟩,
     ⟨(some 27), .bin .neq (.tmp 26) (.const (.int .i64 0)), (some (22, false))⟩,
     ⟨(some 28), .pick (.tmp 22) (.const (.bool true)) (.tmp 27), none⟩] [0, 1, 4, 28])
 (.cond (.tmp 28)
  (.seq (.reg [
      ⟨(some 29), .build [(.int .i64 0), (.slice none 0 0)] [], none⟩,
      ⟨none, .store 2 (.tmp 4) (.tmp 29), none⟩,
      ⟨(some 5), .mv (.const (.int .i64 2)), none⟩] [4, 5])
  (.ret))
  (.skip)))
 (.seq (.seq (.reg [
     ⟨(some 30), .mv (.tmp 0), none⟩,
     ⟨(some 31), .mv (.tmp 1), none⟩,
     ⟨(some 32), .bin .mul (.tmp 30) (.tmp 31), none⟩,
     ⟨(some 33), .bin .gtr (.tmp 32) (.const (.int .i64 720)), none⟩] [0, 1, 4, 33])
 (.cond (.tmp 33)
  (.seq (.reg [
      ⟨(some 34), .build [(.int .i64 0), (.slice none 0 0)] [], none⟩,
      ⟨none, .store 2 (.tmp 4) (.tmp 34), none⟩,
      ⟨(some 5), .mv (.const (.int .i64 5)), none⟩] [4, 5])
  (.ret))
  (.skip)))
 (.seq (.reg [
     ⟨(some 35), .bslice 2 1 0 [] [], none⟩,
     ⟨(some 6), .mv (.tmp 35), none⟩] [0, 1, 4, 6])
 (.seq (.seq (.reg [
     ⟨(some 7), .mv (.const (.int .i64 1)), none⟩] [0, 1, 4, 6, 7])
 (.block 0 (.loop [0, 1, 4, 6, 7]
   (.seq (.seq (.reg [
       ⟨(some 36), .mv (.tmp 7), none⟩,
       ⟨(some 37), .mv (.tmp 0), none⟩,
       ⟨(some 38), .bin .lss (.tmp 36) (.tmp 37), none⟩] [0, 1, 4, 6, 7, 38])
   (.cond (.tmp 38)
    (.skip)
    (.exit 0)))
   (.seq (.block 1 (.seq (.reg [
        ⟨(some 41), .mv (.tmp 7), none⟩,
        ⟨(some 42), .mv (.tmp 1), none⟩,
        ⟨(some 43), .mv (.tmp 0), none⟩,
        ⟨(some 44), .call 52 [(.tmp 41), (.tmp 42), (.tmp 43)], none⟩,
        ⟨(some 45), .bin .eql (.tmp 44) (.const (.int .i64 1)), none⟩] [0, 1, 4, 6, 7, 45])
    (.cond (.tmp 45)
     (.reg [
         ⟨(some 46), .mv (.tmp 6), none⟩,
         ⟨(some 47), .mv (.tmp 7), none⟩,
         ⟨(some 48), .bslice 2 1 1 [(.int .i64 0)] [(0, (.tmp 47))], none⟩,
         ⟨(some 49), .app 2 1 8 (.tmp 46) (.tmp 48), none⟩,
         ⟨(some 6), .mv (.tmp 49), none⟩] [0, 1, 4, 6, 7])
     (.skip))))
   (.reg [
       ⟨(some 39), .mv (.tmp 7), none⟩,
       ⟨(some 40), .bin .add (.tmp 39) (.const (.int .i64 1)), none⟩,
       ⟨(some 7), .mv (.tmp 40), none⟩] [0, 1, 4, 6, 7]))))))
 (.seq (.reg [
     ⟨(some 50), .mv (.tmp 0), none⟩,
     ⟨(some 51), .mv (.tmp 6), none⟩,
     ⟨(some 52), .call 48 [(.tmp 50), (.tmp 51)], none⟩,
     ⟨none, .store 2 (.tmp 4) (.tmp 52), none⟩,
     ⟨(some 5), .mv (.const (.int .i64 0)), none⟩] [4, 5])
 (.ret))))))
theorem s_spec_FrobeniusGroup : stripF Try.prog 16 [[0, 1, 4], [0, 1, 4, 28], [4, 5], [0, 1, 4, 33], [4, 5], [0, 1, 4, 6], [0, 1, 4, 6, 7], [0, 1, 4, 6, 7], [0, 1, 4, 6, 7, 38], [0, 1, 4, 6, 7, 45], [0, 1, 4, 6, 7], [0, 1, 4, 6, 7], [4, 5]] = some (c_spec_FrobeniusGroup, [.cell 4 2, .tmp 5], 53) := by kernel_rfl

/-- loop.example/g00920/impl.FrobeniusGroup -/
abbrev f_impl_FrobeniusGroup : Nat := 17
def c_impl_FrobeniusGroup : SC :=
 .seq (.reg [
     ⟨(some 4), .alloc 24 [(.int .i64 0), (.slice none 0 0)], none⟩,
     ⟨(some 5), .mv (.const (.int .i64 0)), none⟩] [0, 1, 4])
 (.seq (.seq (.reg [
     ⟨(some 10), .mv (.tmp 0), none⟩,
     ⟨(some 11), .bin .gtr (.tmp 10) (.const (.int .i64 32)), none⟩,
     ⟨(some 12), .mv (.tmp 11), none⟩,
     ⟨(some 13), .mv (.tmp 0), (some (12, false))⟩,
     ⟨(some 14), .call 53 [(.tmp 13)], (some (12, false))⟩,
     ⟨(some 15), .un .not (.tmp 14), (some (12, false))⟩,
     ⟨(some 16), .pick (.tmp 12) (.const (.bool true)) (.tmp 15), none⟩,
     ⟨(some 17), .mv (.tmp 16), none⟩,
     ⟨(some 18), .mv (.tmp 1), (some (17, false))⟩,
     ⟨(some 19), .mv (.tmp 0), (some (17, false))⟩,
     ⟨(some 20), .bin .sub (.tmp 19) (.const (.int .i64 1)), (some (17, false))⟩,
     ⟨(some 21), .call 49 [(.tmp 18), (.const (.int .i64 1)), (.tmp 20)], (some (17, false))⟩,
     ⟨(some 22), .un .not (.tmp 21), (some (17, false))⟩,
     ⟨(some 23), .pick (.tmp 17) (.const (.bool true)) (.tmp 22), none⟩,
     ⟨(some 24), .mv (.tmp 23), none⟩,
     ⟨(some 25), .mv (.tmp 0), (some (24, false))⟩,
     ⟨(some 26), .bin .sub (.tmp 25) (.const (.int .i64 1)), (some (24, false))⟩,
     ⟨(some 27), .mv (.tmp 1), (some (24, false))⟩,
     ⟨(some 28), .bin .rem (.tmp 26) (.tmp 27), (some (24, false))⟩,
     ⟨(some 29), .bin .neq (.tmp 28) (.const (.int .i64 0)), (some (24, false))⟩,
     ⟨(some 30), .pick (.tmp 24) (.const (.bool true)) (.tmp 29), none⟩] [0, 1, 4, 30])
 (.cond (.tmp 30)
  (.seq (.reg [
      ⟨(some 31), .build [(.int .i64 0), (.slice none 0 0)] [], none⟩,
      ⟨none, .store 2 (.tmp 4) (.tmp 31), none⟩,
      ⟨(some 5), .mv (.const (.int .i64 2)), none⟩] [4, 5])
  (.ret))
  (.skip)))
 (.seq (.seq (.reg [
     ⟨(some 32), .mv (.tmp 0), none⟩,
     ⟨(some 33), .mv (.tmp 1), none⟩,
     ⟨(some 34), .bin .mul (.tmp 32) (.tmp 33), none⟩,
     ⟨(some 35), .bin .gtr (.tmp 34) (.const (.int .i64 720)), none⟩] [0, 1, 4, 35])
 (.cond (.tmp 35)
  (.seq (.reg [
      ⟨(some 36), .build [(.int .i64 0), (.slice none 0 0)] [], none⟩,
      ⟨none, .store 2 (.tmp 4) (.tmp 36), none⟩,
      ⟨(some 5), .mv (.const (.int .i64 5)), none⟩] [4, 5])
  (.ret))
  (.skip)))
 (.seq (.reg [
     ⟨(some 6), .mv (.const (.slice none 0 0)), none⟩] [0, 1, 4, 6])
 (.seq (.seq (.reg [
     ⟨(some 7), .mv (.const (.int .i64 1)), none⟩] [0, 1, 4, 6, 7])
 (.block 0 (.loop [0, 1, 4, 6, 7]
   (.seq (.seq (.reg [
       ⟨(some 37), .mv (.tmp 7), none⟩,
       ⟨(some 38), .mv (.tmp 0), none⟩,
       ⟨(some 39), .bin .lss (.tmp 37) (.tmp 38), none⟩] [0, 1, 4, 6, 7, 39])
   (.cond (.tmp 39)
    (.skip)
    (.exit 0)))
   (.seq (.block 1 (.seq (.reg [
        ⟨(some 43), .mv (.tmp 7), none⟩,
        ⟨(some 44), .mv (.tmp 1), none⟩,
        ⟨(some 45), .mv (.tmp 0), none⟩,
        ⟨(some 46), .call 54 [(.tmp 43), (.tmp 44), (.tmp 45)], none⟩,
        ⟨(some 42), .mv (.tmp 46), none⟩,
        ⟨(some 47), .ext (.tmp 42) 0, none⟩,
        ⟨(some 48), .ext (.tmp 42) 1, none⟩,
        ⟨(some 8), .mv (.tmp 47), none⟩,
        ⟨(some 9), .mv (.tmp 48), none⟩] [0, 1, 4, 6, 7, 8])
    (.seq (.reg [
        ⟨(some 49), .mv (.tmp 8), none⟩,
        ⟨(some 50), .bin .eql (.tmp 49) (.const (.int .i64 1)), none⟩] [0, 1, 4, 6, 7, 50])
    (.cond (.tmp 50)
     (.reg [
         ⟨(some 51), .mv (.tmp 6), none⟩,
         ⟨(some 52), .mv (.tmp 7), none⟩,
         ⟨(some 53), .bslice 2 1 1 [(.int .i64 0)] [(0, (.tmp 52))], none⟩,
         ⟨(some 54), .app 2 1 8 (.tmp 51) (.tmp 53), none⟩,
         ⟨(some 6), .mv (.tmp 54), none⟩] [0, 1, 4, 6, 7])
     (.skip)))))
   (.reg [
       ⟨(some 40), .mv (.tmp 7), none⟩,
       ⟨(some 41), .bin .add (.tmp 40) (.const (.int .i64 1)), none⟩,
       ⟨(some 7), .mv (.tmp 41), none⟩] [0, 1, 4, 6, 7]))))))
 (.seq (.reg [
     ⟨(some 55), .mv (.tmp 0), none⟩,
     ⟨(some 56), .mv (.tmp 6), none⟩,
     ⟨(some 57), .call 50 [(.tmp 55), (.tmp 56)], none⟩,
     ⟨none, .store 2 (.tmp 4) (.tmp 57), none⟩,
     ⟨(some 5), .mv (.const (.int .i64 0)), none⟩] [4, 5])
 (.ret))))))
theorem s_impl_FrobeniusGroup : stripF Try.prog 17 [[0, 1, 4], [0, 1, 4, 30], [4, 5], [0, 1, 4, 35], [4, 5], [0, 1, 4, 6], [0, 1, 4, 6, 7], [0, 1, 4, 6, 7], [0, 1, 4, 6, 7, 39], [0, 1, 4, 6, 7, 8], [0, 1, 4, 6, 7, 50], [0, 1, 4, 6, 7], [0, 1, 4, 6, 7], [4, 5]] = some (c_impl_FrobeniusGroup, [.cell 4 2, .tmp 5], 58) := by kernel_rfl

/-- loop.example/g00920/spec.IsPrime -/
abbrev f_spec_IsPrime : Nat := 51
def c_spec_IsPrime : SC :=
 .seq (.reg [
     ⟨(some 2), .mv (.const (.bool false)), none⟩] [0])
 (.seq (.seq (.reg [
     ⟨(some 4), .mv (.tmp 0), none⟩,
     ⟨(some 5), .call 47 [(.tmp 4), (.const (.int .i64 2)), (.const (.int .i64 1000000))], none⟩,
     ⟨(some 6), .un .not (.tmp 5), none⟩] [0, 6])
 (.cond (.tmp 6)
  (.seq (.reg [
      ⟨(some 2), .mv (.const (.bool false)), none⟩] [2])
  (.ret))
  (.skip)))
 (.seq (.seq (.reg [
     ⟨(some 3), .mv (.const (.int .i64 2)), none⟩] [0, 3])
 (.block 0 (.loop [0, 3]
   (.seq (.seq (.reg [
       ⟨(some 7), .mv (.tmp 3), none⟩,
       ⟨(some 8), .mv (.tmp 3), none⟩,
       ⟨(some 9), .bin .mul (.tmp 7) (.tmp 8), none⟩,
       ⟨(some 10), .mv (.tmp 0), none⟩,
       ⟨(some 11), .bin .leq (.tmp 9) (.tmp 10), none⟩] [0, 3, 11])
   (.cond (.tmp 11)
    (.skip)
    (.exit 0)))
   (.seq (.block 1 (.seq (.reg [
        ⟨(some 14), .mv (.tmp 0), none⟩,
        ⟨(some 15), .mv (.tmp 3), none⟩,
        ⟨(some 16), .bin .rem (.tmp 14) (.tmp 15), none⟩,
        ⟨(some 17), .bin .eql (.tmp 16) (.const (.int .i64 0)), none⟩] [0, 3, 17])
    (.cond (.tmp 17)
     (.seq (.reg [
         ⟨(some 2), .mv (.const (.bool false)), none⟩] [2])
     (.ret))
     (.skip))))
   (.reg [
       ⟨(some 12), .mv (.tmp 3), none⟩,
       ⟨(some 13), .bin .add (.tmp 12) (.const (.int .i64 1)), none⟩,
       ⟨(some 3), .mv (.tmp 13), none⟩] [0, 3]))))))
 (.seq (.reg [
     ⟨(some 2), .mv (.const (.bool true)), none⟩] [2])
 (.ret))))
theorem s_spec_IsPrime : stripF Try.prog 51 [[0], [0, 6], [2], [0, 3], [0, 3], [0, 3, 11], [0, 3, 17], [2], [0, 3], [2]] = some (c_spec_IsPrime, [.tmp 2], 18) := by kernel_rfl

/-- loop.example/g00920/spec.l02Power -/
abbrev f_spec_l02Power : Nat := 52
def c_spec_l02Power : SC :=
 .seq (.reg [
     ⟨(some 6), .mv (.const (.int .i64 0)), none⟩] [0, 1, 2])
 (.seq (.reg [
     ⟨(some 8), .mv (.tmp 2), none⟩,
     ⟨(some 9), .bin .rem (.const (.int .i64 1)) (.tmp 8), none⟩,
     ⟨(some 7), .mv (.tmp 9), none⟩] [0, 1, 2, 7])
 (.seq (.block 0 (.loop [0, 1, 2, 7]
   (.seq (.seq (.reg [
       ⟨(some 10), .mv (.tmp 1), none⟩,
       ⟨(some 11), .bin .gtr (.tmp 10) (.const (.int .i64 0)), none⟩] [0, 1, 2, 7, 11])
   (.cond (.tmp 11)
    (.skip)
    (.exit 0)))
   (.block 1 (.seq (.seq (.reg [
        ⟨(some 12), .mv (.tmp 1), none⟩,
        ⟨(some 13), .bin .rem (.tmp 12) (.const (.int .i64 2)), none⟩,
        ⟨(some 14), .bin .eql (.tmp 13) (.const (.int .i64 1)), none⟩] [0, 1, 2, 7, 14])
    (.cond (.tmp 14)
     (.reg [
         ⟨(some 15), .mv (.tmp 7), none⟩,
         ⟨(some 16), .mv (.tmp 0), none⟩,
         ⟨(some 17), .bin .mul (.tmp 15) (.tmp 16), none⟩,
         ⟨(some 18), .mv (.tmp 2), none⟩,
         ⟨(some 19), .bin .rem (.tmp 17) (.tmp 18), none⟩,
         ⟨(some 7), .mv (.tmp 19), none⟩] [0, 1, 2, 7])
     (.skip)))
    (.seq (.reg [
        ⟨(some 20), .mv (.tmp 0), none⟩,
        ⟨(some 21), .mv (.tmp 0), none⟩,
        ⟨(some 22), .bin .mul (.tmp 20) (.tmp 21), none⟩,
        ⟨(some 23), .mv (.tmp 2), none⟩,
        ⟨(some 24), .bin .rem (.tmp 22) (.tmp 23), none⟩,
        ⟨(some 0), .mv (.tmp 24), none⟩] [0, 1, 2, 7])
    (.reg [
        ⟨(some 25), .mv (.tmp 1), none⟩,
        ⟨(some 26), .bin .quo (.tmp 25) (.const (.int .i64 2)), none⟩,
        ⟨(some 1), .mv (.tmp 26), none⟩] [0, 1, 2, 7])))))))
 (.seq (.reg [
     ⟨(some 27), .mv (.tmp 7), none⟩,
     ⟨(some 6), .mv (.tmp 27), none⟩] [6])
 (.ret))))
theorem s_spec_l02Power : stripF Try.prog 52 [[0, 1, 2], [0, 1, 2, 7], [0, 1, 2, 7], [0, 1, 2, 7, 11], [0, 1, 2, 7, 14], [0, 1, 2, 7], [0, 1, 2, 7], [0, 1, 2, 7], [6]] = some (c_spec_l02Power, [.tmp 6], 28) := by kernel_rfl

/-- loop.example/g00920/impl.IsPrime -/
abbrev f_impl_IsPrime : Nat := 53
def c_impl_IsPrime : SC :=
 .seq (.reg [
     ⟨(some 2), .mv (.const (.bool false)), none⟩] [0])
 (.seq (.reg [
     ⟨(some 3), .mv (.tmp 0), none⟩,
     ⟨(some 4), .call 98 [(.tmp 3)], none⟩,
     ⟨(some 5), .len (.tmp 4), none⟩,
     ⟨(some 6), .bin .eql (.tmp 5) (.const (.int .i64 1)), none⟩,
     ⟨(some 2), .mv (.tmp 6), none⟩] [2])
 (.ret))
theorem s_impl_IsPrime : stripF Try.prog 53 [[0], [2]] = some (c_impl_IsPrime, [.tmp 2], 7) := by kernel_rfl

/-- loop.example/g00920/impl.PowerMod -/
abbrev f_impl_PowerMod : Nat := 54
def c_impl_PowerMod : SC :=
 .seq (.reg [
     ⟨(some 6), .mv (.const (.int .i64 0)), none⟩,
     ⟨(some 7), .mv (.const (.int .i64 0)), none⟩] [0, 1, 2])
 (.seq (.seq (.reg [
     ⟨(some 9), .mv (.tmp 0), none⟩,
     ⟨(some 10), .mv (.tmp 2), none⟩,
     ⟨(some 11), .call 99 [(.tmp 9), (.tmp 10)], none⟩,
     ⟨(some 12), .un .not (.tmp 11), none⟩,
     ⟨(some 13), .mv (.tmp 12), none⟩,
     ⟨(some 14), .mv (.tmp 1), (some (13, false))⟩,
     ⟨(some 15), .call 49 [(.tmp 14), (.const (.int .i64 0)), (.const (.int .i64 1000000))], (some (13, false))⟩,
     ⟨(some 16), .un .not (.tmp 15), (some (13, false))⟩,
     ⟨(some 17), .pick (.tmp 13) (.const (.bool true)) (.tmp 16), none⟩] [0, 1, 2, 17])
 (.cond (.tmp 17)
  (.seq (.reg [
      ⟨(some 6), .mv (.const (.int .i64 0)), none⟩,
      ⟨(some 7), .mv (.const (.int .i64 2)), none⟩] [6, 7])
  (.ret))
  (.skip)))
 (.seq (.reg [
     ⟨(some 18), .mv (.tmp 2), none⟩,
     ⟨(some 19), .bin .rem (.const (.int .i64 1)) (.tmp 18), none⟩,
     ⟨(some 8), .mv (.tmp 19), none⟩] [0, 1, 2, 8])
 (.seq (.block 0 (.loop [0, 1, 2, 8]
   (.seq (.seq (.reg [
       ⟨(some 20), .mv (.tmp 1), none⟩,
       ⟨(some 21), .bin .gtr (.tmp 20) (.const (.int .i64 0)), none⟩] [0, 1, 2, 8, 21])
   (.cond (.tmp 21)
    (.skip)
    (.exit 0)))
   (.seq (.block 1 (.seq (.seq (.reg [
        ⟨(some 24), .mv (.tmp 1), none⟩,
        ⟨(some 25), .bin .rem (.tmp 24) (.const (.int .i64 2)), none⟩,
        ⟨(some 26), .bin .eql (.tmp 25) (.const (.int .i64 1)), none⟩] [0, 1, 2, 8, 26])
    (.cond (.tmp 26)
     (.reg [
         ⟨(some 27), .mv (.tmp 8), none⟩,
         ⟨(some 28), .mv (.tmp 0), none⟩,
         ⟨(some 29), .bin .mul (.tmp 27) (.tmp 28), none⟩,
         ⟨(some 30), .mv (.tmp 2), none⟩,
         ⟨(some 31), .bin .rem (.tmp 29) (.tmp 30), none⟩,
         ⟨(some 8), .mv (.tmp 31), none⟩] [0, 1, 2, 8])
     (.skip)))
    (.reg [
        ⟨(some 32), .mv (.tmp 0), none⟩,
        ⟨(some 33), .mv (.tmp 0), none⟩,
        ⟨(some 34), .bin .mul (.tmp 32) (.tmp 33), none⟩,
        ⟨(some 35), .mv (.tmp 2), none⟩,
        ⟨(some 36), .bin .rem (.tmp 34) (.tmp 35), none⟩,
        ⟨(some 0), .mv (.tmp 36), none⟩] [0, 1, 2, 8])))
   (.reg [
       ⟨(some 22), .mv (.tmp 1), none⟩,
       ⟨(some 23), .bin .quo (.tmp 22) (.const (.int .i64 2)), none⟩,
       ⟨(some 1), .mv (.tmp 23), none⟩] [0, 1, 2, 8])))))
 (.seq (.reg [
     ⟨(some 37), .mv (.tmp 8), none⟩,
     ⟨(some 6), .mv (.tmp 37), none⟩,
     ⟨(some 7), .mv (.const (.int .i64 0)), none⟩] [6, 7])
 (.ret)))))
theorem s_impl_PowerMod : stripF Try.prog 54 [[0, 1, 2], [0, 1, 2, 17], [6, 7], [0, 1, 2, 8], [0, 1, 2, 8], [0, 1, 2, 8, 21], [0, 1, 2, 8, 26], [0, 1, 2, 8], [0, 1, 2, 8], [0, 1, 2, 8], [6, 7]] = some (c_impl_PowerMod, [.tmp 6, .tmp 7], 38) := by kernel_rfl

/-- loop.example/g00920/impl.FactorsOf -/
abbrev f_impl_FactorsOf : Nat := 98
def c_impl_FactorsOf : SC :=
 .seq (.reg [
     ⟨(some 2), .mv (.const (.slice none 0 0)), none⟩] [0])
 (.seq (.seq (.reg [
     ⟨(some 5), .mv (.tmp 0), none⟩,
     ⟨(some 6), .call 49 [(.tmp 5), (.const (.int .i64 1)), (.const (.int .i64 1000000))], none⟩,
     ⟨(some 7), .un .not (.tmp 6), none⟩] [0, 7])
 (.cond (.tmp 7)
  (.seq (.reg [
      ⟨(some 2), .mv (.const (.slice none 0 0)), none⟩] [2])
  (.ret))
  (.skip)))
 (.seq (.reg [
     ⟨(some 3), .mv (.const (.slice none 0 0)), none⟩] [0, 3])
 (.seq (.seq (.reg [
     ⟨(some 4), .mv (.const (.int .i64 2)), none⟩] [0, 3, 4])
 (.block 0 (.loop [0, 3, 4]
   (.seq (.seq (.reg [
       ⟨(some 8), .mv (.tmp 4), none⟩,
       ⟨(some 9), .mv (.tmp 4), none⟩,
       ⟨(some 10), .bin .mul (.tmp 8) (.tmp 9), none⟩,
       ⟨(some 11), .mv (.tmp 0), none⟩,
       ⟨(some 12), .bin .leq (.tmp 10) (.tmp 11), none⟩] [0, 3, 4, 12])
   (.cond (.tmp 12)
    (.skip)
    (.exit 0)))
   (.seq (.block 1 (.block 2 (.loop [0, 3, 4]
      (.seq (.seq (.reg [
          ⟨(some 15), .mv (.tmp 0), none⟩,
          ⟨(some 16), .mv (.tmp 4), none⟩,
          ⟨(some 17), .bin .rem (.tmp 15) (.tmp 16), none⟩,
          ⟨(some 18), .bin .eql (.tmp 17) (.const (.int .i64 0)), none⟩] [0, 3, 4, 18])
      (.cond (.tmp 18)
       (.skip)
       (.exit 2)))
      (.block 3 (.seq (.reg [
           ⟨(some 19), .mv (.tmp 3), none⟩,
           ⟨(some 20), .mv (.tmp 4), none⟩,
           ⟨(some 21), .bslice 2 1 1 [(.int .i64 0)] [(0, (.tmp 20))], none⟩,
           ⟨(some 22), .app 2 1 8 (.tmp 19) (.tmp 21), none⟩,
           ⟨(some 3), .mv (.tmp 22), none⟩] [0, 3, 4])
       (.reg [
           ⟨(some 23), .mv (.tmp 0), none⟩,
           ⟨(some 24), .mv (.tmp 4), none⟩,
           ⟨(some 25), .bin .quo (.tmp 23) (.tmp 24), none⟩,
           ⟨(some 0), .mv (.tmp 25), none⟩] [0, 3, 4])))))))
   (.reg [
       ⟨(some 13), .mv (.tmp 4), none⟩,
       ⟨(some 14), .bin .add (.tmp 13) (.const (.int .i64 1)), none⟩,
       ⟨(some 4), .mv (.tmp 14), none⟩] [0, 3, 4]))))))
 (.seq (.seq (.reg [
     ⟨(some 26), .mv (.tmp 0), none⟩,
     ⟨(some 27), .bin .gtr (.tmp 26) (.const (.int .i64 1)), none⟩] [0, 3, 27])
 (.cond (.tmp 27)
  (.reg [
      ⟨(some 28), .mv (.tmp 3), none⟩,
      ⟨(some 29), .mv (.tmp 0), none⟩,
      ⟨(some 30), .bslice 2 1 1 [(.int .i64 0)] [(0, (.tmp 29))], none⟩,
      ⟨(some 31), .app 2 1 8 (.tmp 28) (.tmp 30), none⟩,
      ⟨(some 3), .mv (.tmp 31), none⟩] [3])
  (.skip)))
 (.seq (.reg [
     ⟨(some 32), .mv (.tmp 3), none⟩,
     ⟨(some 2), .mv (.tmp 32), none⟩] [2])
 (.ret))))))
theorem s_impl_FactorsOf : stripF Try.prog 98 [[0], [0, 7], [2], [0, 3], [0, 3, 4], [0, 3, 4], [0, 3, 4, 12], [0, 3, 4], [0, 3, 4, 18], [0, 3, 4], [0, 3, 4], [0, 3, 4], [0, 3, 27], [3], [2]] = some (c_impl_FactorsOf, [.tmp 2], 33) := by kernel_rfl

/-- loop.example/g00920/impl.isResidue -/
abbrev f_impl_isResidue : Nat := 99
def c_impl_isResidue : SC :=
 .seq (.reg [
     ⟨(some 4), .mv (.const (.bool false)), none⟩] [0, 1])
 (.seq (.reg [
     ⟨(some 5), .mv (.tmp 1), none⟩,
     ⟨(some 6), .call 140 [(.tmp 5)], none⟩,
     ⟨(some 7), .mv (.tmp 6), none⟩,
     ⟨(some 8), .mv (.tmp 0), (some (7, true))⟩,
     ⟨(some 9), .mv (.tmp 1), (some (7, true))⟩,
     ⟨(some 10), .bin .sub (.tmp 9) (.const (.int .i64 1)), (some (7, true))⟩,
     ⟨(some 11), .call 49 [(.tmp 8), (.const (.int .i64 0)), (.tmp 10)], (some (7, true))⟩,
     ⟨(some 12), .pick (.tmp 7) (.tmp 11) (.const (.bool false)), none⟩,
     ⟨(some 4), .mv (.tmp 12), none⟩] [4])
 (.ret))
theorem s_impl_isResidue : stripF Try.prog 99 [[0, 1], [4]] = some (c_impl_isResidue, [.tmp 4], 13) := by kernel_rfl

/-- loop.example/g00920/impl.isModulus -/
abbrev f_impl_isModulus : Nat := 140
def c_impl_isModulus : SC :=
 .seq (.reg [
     ⟨(some 2), .mv (.const (.bool false)), none⟩] [0])
 (.seq (.reg [
     ⟨(some 3), .mv (.tmp 0), none⟩,
     ⟨(some 4), .call 49 [(.tmp 3), (.const (.int .i64 1)), (.const (.int .i64 1000))], none⟩,
     ⟨(some 2), .mv (.tmp 4), none⟩] [2])
 (.ret))
theorem s_impl_isModulus : stripF Try.prog 140 [[0], [2]] = some (c_impl_isModulus, [.tmp 2], 5) := by kernel_rfl


/-! ### Is it prime? -/
def sp (n : Nat) : Nat → Nat → Bool
  | 0, _ => true
  | f + 1, d => if d * d ≤ n then (if n % d = 0 then false else sp n f (d + 1)) else true
def primeS (n : Int) : Bool := decide (2 ≤ n) && decide (n ≤ 1000000) && sp n.toNat n.toNat 2

theorem tmodN {a b : Nat} : (a : Int).tmod (b : Int) = ((a % b : Nat) : Int) := by rw [Int.tmod_eq_emod_of_nonneg (by omega)]; simp
theorem tdivN {a b : Nat} : (a : Int).tdiv (b : Int) = ((a / b : Nat) : Int) := by rw [Int.tdiv_eq_ediv_of_nonneg (by omega)]; simp

theorem specIsPrime_fn (n : Int) : PFn Try.prog f_spec_IsPrime [I n] (Bv (primeS n)) := by
  intro H; refine ACalls.introB s_spec_IsPrime (by simp) ?_; intro hB hA; unfold c_spec_IsPrime; simp (config := { maxSteps := 1000000 }) (disch := (first | omega | (simp only [go_sem]; try omega))) only [go_sem, Nat.reduceAdd, Nat.reduceEqDiff, Nat.reduceLeDiff, Nat.reduceMul, Nat.reduceLT, reduceIte, Int.reduceToNat, w64_id, cast_succ]
  by_cases h : 2 ≤ n ∧ n ≤ 1000000
  · obtain ⟨k, rfl⟩ := Int.eq_ofNat_of_zero_le (show 0 ≤ n by omega)
    have hb : (decide ((2 : Int) ≤ (k : Int)) && decide ((k : Int) ≤ 1000000)) = true := by simp; omega
    have hv : primeS (k : Int) = sp k k 2 := by unfold primeS; rw [hb, Bool.true_and]; rfl
    rw [hv]
    repeat (first | (with_reducible first | refine SW.seq ?_ | refine SW.block ?_ | refine SW.rowC ?_ | refine SW.skip ?_ | refine SW.exit ?_ | refine PFn.use (l00In_fn _ _ _) ?_ | refine PFn.useq (l00In_fn _ _ _) ?_ | intro _ | refine And.intro (by omega) ?_) | simp (config := { maxSteps := 1000000 }) (disch := (first | omega | (simp only [go_sem]; try omega))) only [go_sem, Nat.reduceAdd, Nat.reduceEqDiff, Nat.reduceLeDiff, Nat.reduceMul, Nat.reduceLT, reduceIte, Int.reduceToNat, w64_id, cast_succ, hb])
    refine SW.condF rfl ?_
    repeat (first | (with_reducible first | refine SW.seq ?_ | refine SW.block ?_ | refine SW.rowC ?_ | refine SW.skip ?_ | refine SW.exit ?_ | intro _ | refine And.intro (by omega) ?_) | simp (config := { maxSteps := 1000000 }) (disch := (first | omega | (simp only [go_sem]; try omega))) only [go_sem, Nat.reduceAdd, Nat.reduceEqDiff, Nat.reduceLeDiff, Nat.reduceMul, Nat.reduceLT, reduceIte, Int.reduceToNat, w64_id, cast_succ])
    refine SW.loopE (fun E0 H0 q E' H' => ∃ d : Nat, 2 ≤ d ∧ d + q = k + 2 ∧ E' = aput E0 3 (I d) ∧ H' = H0 ∧ sp k k 2 = sp k q d) k ⟨2, by omega, by omega, rfl, rfl, rfl⟩ ?_
    rintro q E' H' ⟨d, h2, hq, rfl, rfl, hs⟩
    have hdd : d * d ≤ 1000002 * 1000002 := Nat.mul_le_mul (by omega) (by omega)
    have e1 : (d : Int) * (d : Int) = ((d * d : Nat) : Int) := by simp
    have hdle : d ≤ d * d := Nat.le_mul_self d
    have hd0 : ¬ (d : Int) = 0 := by omega
    simp (config := { maxSteps := 1000000 }) (disch := (first | omega | (simp only [go_sem]; try omega))) only [go_sem, Nat.reduceAdd, Nat.reduceEqDiff, Nat.reduceLeDiff, Nat.reduceMul, Nat.reduceLT, reduceIte, Int.reduceToNat, w64_id, cast_succ]
    repeat (first | (with_reducible first | refine SW.seq ?_ | refine SW.block ?_ | refine SW.rowC ?_ | refine SW.skip ?_ | refine SW.exit ?_ | intro _ | refine And.intro (by omega) ?_) | simp (config := { maxSteps := 1000000 }) (disch := (first | omega | (simp only [go_sem]; try omega))) only [go_sem, Nat.reduceAdd, Nat.reduceEqDiff, Nat.reduceLeDiff, Nat.reduceMul, Nat.reduceLT, reduceIte, Int.reduceToNat, w64_id, cast_succ, e1])
    (first | refine SW.condD rfl (fun h3 => ?_) (fun h3 => ?_) | refine SW.condN rfl (fun h3 => ?_) (fun h3 => ?_) | refine SW.condNB rfl (fun h3 => ?_) (fun h3 => ?_) | refine SW.condB rfl (fun h3 => ?_) (fun h3 => ?_))
    · have h3' : d * d ≤ k := by omega
      obtain ⟨f, rfl⟩ : ∃ f, q = f + 1 := ⟨q - 1, by omega⟩
      have hst : sp k (f + 1) d = if k % d = 0 then false else sp k f (d + 1) := by rw [sp, if_pos h3']
      rw [hst] at hs
      by_cases hm : k % d = 0
      · rw [if_pos hm] at hs
        have hmd : decide (((k % d : Nat) : Int) = 0) = true := decide_eq_true (by omega)
        repeat (first | (with_reducible first | refine SW.seq ?_ | refine SW.block ?_ | refine SW.rowC ?_ | refine SW.skip ?_ | refine SW.exit ?_ | intro _ | refine And.intro (by omega) ?_) | simp (config := { maxSteps := 1000000 }) (disch := (first | omega | (simp only [go_sem]; try omega))) only [go_sem, Nat.reduceAdd, Nat.reduceEqDiff, Nat.reduceLeDiff, Nat.reduceMul, Nat.reduceLT, reduceIte, Int.reduceToNat, w64_id, cast_succ, tmodN, hmd])
        refine SW.condT rfl ?_
        repeat (first | (with_reducible first | refine SW.seq ?_ | refine SW.block ?_ | refine SW.rowC ?_ | refine SW.skip ?_ | refine SW.exit ?_ | intro _ | refine And.intro (by omega) ?_) | simp (config := { maxSteps := 1000000 }) (disch := (first | omega | (simp only [go_sem]; try omega))) only [go_sem, Nat.reduceAdd, Nat.reduceEqDiff, Nat.reduceLeDiff, Nat.reduceMul, Nat.reduceLT, reduceIte, Int.reduceToNat, w64_id, cast_succ])
        refine SW.ret ?_; (try simp only [go_sem]); (first | refine FunPost.one ?_ | refine FunPost.two ?_ | refine FunPost.three ?_); (try simp (config := { maxSteps := 1000000 }) (disch := (first | omega | (simp only [go_sem]; try omega))) only [go_sem, Nat.reduceAdd, Nat.reduceEqDiff, Nat.reduceLeDiff, Nat.reduceMul, Nat.reduceLT, reduceIte, Int.reduceToNat, w64_id, cast_succ]); (first | (with_reducible refine GR.drop ?_ ?_; (simp only [go_sem, and_self, and_true, true_and, implies_true, List.take_succ_cons, List.take_zero])) | refine GR.of ?_); refine ⟨?_, rfl⟩; (try with_reducible rfl)
        rw [hs]
      · rw [if_neg hm] at hs
        have hmd : decide (((k % d : Nat) : Int) = 0) = false := decide_eq_false (by omega)
        repeat (first | (with_reducible first | refine SW.seq ?_ | refine SW.block ?_ | refine SW.rowC ?_ | refine SW.skip ?_ | refine SW.exit ?_ | intro _ | refine And.intro (by omega) ?_) | simp (config := { maxSteps := 1000000 }) (disch := (first | omega | (simp only [go_sem]; try omega))) only [go_sem, Nat.reduceAdd, Nat.reduceEqDiff, Nat.reduceLeDiff, Nat.reduceMul, Nat.reduceLT, reduceIte, Int.reduceToNat, w64_id, cast_succ, tmodN, hmd])
        refine SW.condF rfl ?_
        repeat (first | (with_reducible first | refine SW.seq ?_ | refine SW.block ?_ | refine SW.rowC ?_ | refine SW.skip ?_ | refine SW.exit ?_ | intro _ | refine And.intro (by omega) ?_) | simp (config := { maxSteps := 1000000 }) (disch := (first | omega | (simp only [go_sem]; try omega))) only [go_sem, Nat.reduceAdd, Nat.reduceEqDiff, Nat.reduceLeDiff, Nat.reduceMul, Nat.reduceLT, reduceIte, Int.reduceToNat, w64_id, cast_succ])
        refine SLoop.next f (by omega) ⟨d + 1, by omega, by omega, ?_, rfl, hs⟩
        simp [go_sem]
    · have h3' : ¬ d * d ≤ k := by omega
      repeat (first | (with_reducible first | refine SW.seq ?_ | refine SW.block ?_ | refine SW.rowC ?_ | refine SW.skip ?_ | refine SW.exit ?_ | intro _ | refine And.intro (by omega) ?_) | simp (config := { maxSteps := 1000000 }) (disch := (first | omega | (simp only [go_sem]; try omega))) only [go_sem, Nat.reduceAdd, Nat.reduceEqDiff, Nat.reduceLeDiff, Nat.reduceMul, Nat.reduceLT, reduceIte, Int.reduceToNat, w64_id, cast_succ])
      refine SW.ret ?_; (try simp only [go_sem]); (first | refine FunPost.one ?_ | refine FunPost.two ?_ | refine FunPost.three ?_); (try simp (config := { maxSteps := 1000000 }) (disch := (first | omega | (simp only [go_sem]; try omega))) only [go_sem, Nat.reduceAdd, Nat.reduceEqDiff, Nat.reduceLeDiff, Nat.reduceMul, Nat.reduceLT, reduceIte, Int.reduceToNat, w64_id, cast_succ]); (first | (with_reducible refine GR.drop ?_ ?_; (simp only [go_sem, and_self, and_true, true_and, implies_true, List.take_succ_cons, List.take_zero])) | refine GR.of ?_); refine ⟨?_, rfl⟩; (try with_reducible rfl)
      rw [hs]
      cases q with
      | zero => rfl
      | succ f => rw [sp, if_neg h3']
  · have hb : (decide (2 ≤ n) && decide (n ≤ 1000000)) = false := by
      rcases Classical.not_and_iff_not_or_not.1 h with h | h <;> simp [h]
    have hv : primeS n = false := by unfold primeS; rw [hb]; rfl
    rw [hv]
    repeat (first | (with_reducible first | refine SW.seq ?_ | refine SW.block ?_ | refine SW.rowC ?_ | refine SW.skip ?_ | refine SW.exit ?_ | refine PFn.use (l00In_fn _ _ _) ?_ | refine PFn.useq (l00In_fn _ _ _) ?_ | intro _ | refine And.intro (by omega) ?_) | simp (config := { maxSteps := 1000000 }) (disch := (first | omega | (simp only [go_sem]; try omega))) only [go_sem, Nat.reduceAdd, Nat.reduceEqDiff, Nat.reduceLeDiff, Nat.reduceMul, Nat.reduceLT, reduceIte, Int.reduceToNat, w64_id, cast_succ, hb])
    refine SW.condT rfl ?_
    repeat (first | (with_reducible first | refine SW.seq ?_ | refine SW.block ?_ | refine SW.rowC ?_ | refine SW.skip ?_ | refine SW.exit ?_ | intro _ | refine And.intro (by omega) ?_) | simp (config := { maxSteps := 1000000 }) (disch := (first | omega | (simp only [go_sem]; try omega))) only [go_sem, Nat.reduceAdd, Nat.reduceEqDiff, Nat.reduceLeDiff, Nat.reduceMul, Nat.reduceLT, reduceIte, Int.reduceToNat, w64_id, cast_succ])
    refine SW.ret ?_; (try simp only [go_sem]); (first | refine FunPost.one ?_ | refine FunPost.two ?_ | refine FunPost.three ?_); (try simp (config := { maxSteps := 1000000 }) (disch := (first | omega | (simp only [go_sem]; try omega))) only [go_sem, Nat.reduceAdd, Nat.reduceEqDiff, Nat.reduceLeDiff, Nat.reduceMul, Nat.reduceLT, reduceIte, Int.reduceToNat, w64_id, cast_succ]); (first | (with_reducible refine GR.drop ?_ ?_; (simp only [go_sem, and_self, and_true, true_and, implies_true, List.take_succ_cons, List.take_zero])) | refine GR.of ?_); refine ⟨?_, rfl⟩; (try with_reducible rfl)


def inn (p : Nat) : Nat → Nat → List Int → Nat × List Int
  | 0, n, acc => (n, acc)
  | f + 1, n, acc => if n % p = 0 then inn p f (n / p) (acc ++ [(p : Int)]) else (n, acc)
def facs : Nat → Nat → Nat → List Int → List Int
  | 0, _, _, acc => acc
  | f + 1, n, p, acc => if p * p ≤ n then facs f (inn p 64 n acc).1 (p + 1) (inn p 64 n acc).2 else (if 1 < n then acc ++ [(n : Int)] else acc)

theorem FactorsOf_fn (n : Nat) (h1 : 1 ≤ n) (hn : n ≤ 32) : PFn Try.prog f_impl_FactorsOf [I n] (ilS (facs 64 n 2 [])) := by
  intro H; refine ACalls.introB s_impl_FactorsOf (by simp) ?_; intro hB hA; unfold c_impl_FactorsOf; simp (config := { maxSteps := 1000000 }) (disch := (first | omega | (simp only [go_sem]; try omega))) only [go_sem, Nat.reduceAdd, Nat.reduceEqDiff, Nat.reduceLeDiff, Nat.reduceMul, Nat.reduceLT, reduceIte, Int.reduceToNat, w64_id, cast_succ]
  have hb : (decide ((1 : Int) ≤ (n : Int)) && decide ((n : Int) ≤ 1000000)) = true := by simp; omega
  repeat (first | (with_reducible first | refine SW.seq ?_ | refine SW.block ?_ | refine SW.rowC ?_ | refine SW.skip ?_ | refine SW.exit ?_ | refine PFn.use (within_fn _ _ _) ?_ | refine PFn.useq (within_fn _ _ _) ?_ | intro _ | refine And.intro (by omega) ?_) | simp (config := { maxSteps := 1000000 }) (disch := (first | omega | (simp only [go_sem]; try omega))) only [go_sem, Nat.reduceAdd, Nat.reduceEqDiff, Nat.reduceLeDiff, Nat.reduceMul, Nat.reduceLT, reduceIte, Int.reduceToNat, w64_id, cast_succ, hb])
  refine SW.condF rfl ?_
  repeat (first | (with_reducible first | refine SW.seq ?_ | refine SW.block ?_ | refine SW.rowC ?_ | refine SW.skip ?_ | refine SW.exit ?_ | intro _ | refine And.intro (by omega) ?_) | simp (config := { maxSteps := 1000000 }) (disch := (first | omega | (simp only [go_sem]; try omega))) only [go_sem, Nat.reduceAdd, Nat.reduceEqDiff, Nat.reduceLeDiff, Nat.reduceMul, Nat.reduceLT, reduceIte, Int.reduceToNat, w64_id, cast_succ])
  refine SW.ghost (Gh.name 3 2 1 rfl) ?_
  simp (config := { maxSteps := 1000000 }) (disch := (first | omega | (simp only [go_sem]; try omega))) only [go_sem, Nat.reduceAdd, Nat.reduceEqDiff, Nat.reduceLeDiff, Nat.reduceMul, Nat.reduceLT, reduceIte, Int.reduceToNat, w64_id, cast_succ]
  generalize hZ : facs 64 n 2 [] = Z
  refine SW.loopE (fun E0 H0 q E' H' => ∃ (p k ver : Nat) (acc : List Int), 2 ≤ p ∧ p ≤ 7 ∧ 1 ≤ k ∧ k ≤ n ∧ p + q = 66 ∧ acc.length ≤ 64 * p ∧ E' = aput (aput (aput E0 4 (I p)) 0 (I k)) 3 (.nm H.length ver 0 acc.length) ∧ H' = H ++ [⟨ver, 2, 1, acc.map I⟩] ∧ Z = facs q k p acc) 64 ⟨2, n, 0, [], by omega, by omega, by omega, by omega, by omega, by simp, rfl, rfl, hZ.symm⟩ ?_
  rintro q E' H' ⟨p, k, ver, acc, hp2, hp7, hk1, hkn, hq, hal, rfl, rfl, hfa⟩
  have hpp : p * p ≤ 66 * 66 := Nat.mul_le_mul (by omega) (by omega)
  have e1 : (p : Int) * (p : Int) = ((p * p : Nat) : Int) := by simp
  have hple : p ≤ p * p := Nat.le_mul_self p
  have hp0 : ¬ (p : Int) = 0 := by omega
  simp (config := { maxSteps := 1000000 }) (disch := (first | omega | (simp only [go_sem]; try omega))) only [go_sem, Nat.reduceAdd, Nat.reduceEqDiff, Nat.reduceLeDiff, Nat.reduceMul, Nat.reduceLT, reduceIte, Int.reduceToNat, w64_id, cast_succ]
  repeat (first | (with_reducible first | refine SW.seq ?_ | refine SW.block ?_ | refine SW.rowC ?_ | refine SW.skip ?_ | refine SW.exit ?_ | intro _ | refine And.intro (by omega) ?_) | simp (config := { maxSteps := 1000000 }) (disch := (first | omega | (simp only [go_sem]; try omega))) only [go_sem, Nat.reduceAdd, Nat.reduceEqDiff, Nat.reduceLeDiff, Nat.reduceMul, Nat.reduceLT, reduceIte, Int.reduceToNat, w64_id, cast_succ, e1])
  (first | refine SW.condD rfl (fun h3 => ?_) (fun h3 => ?_) | refine SW.condN rfl (fun h3 => ?_) (fun h3 => ?_) | refine SW.condNB rfl (fun h3 => ?_) (fun h3 => ?_) | refine SW.condB rfl (fun h3 => ?_) (fun h3 => ?_))
  · have h3' : p * p ≤ k := by omega
    obtain ⟨f, rfl⟩ : ∃ f, q = f + 1 := ⟨q - 1, by omega⟩
    rw [facs, if_pos h3'] at hfa
    repeat (first | (with_reducible first | refine SW.seq ?_ | refine SW.block ?_ | refine SW.rowC ?_ | refine SW.skip ?_ | refine SW.exit ?_ | intro _ | refine And.intro (by omega) ?_) | simp (config := { maxSteps := 1000000 }) (disch := (first | omega | (simp only [go_sem]; try omega))) only [go_sem, Nat.reduceAdd, Nat.reduceEqDiff, Nat.reduceLeDiff, Nat.reduceMul, Nat.reduceLT, reduceIte, Int.reduceToNat, w64_id, cast_succ])
    refine SW.loopE (fun E0 H0 q E' H' => ∃ (j ver : Nat) (ac : List Int), 1 ≤ j ∧ j ≤ q ∧ j ≤ k ∧ ac.length + q ≤ acc.length + 64 ∧ q ≤ 64 ∧ E' = aput (aput E0 0 (I j)) 3 (.nm H.length ver 0 ac.length) ∧ H' = H ++ [⟨ver, 2, 1, ac.map I⟩] ∧ inn p 64 k acc = inn p q j ac) 64 ⟨k, ver, acc, by omega, by omega, by omega, by omega, by omega, rfl, rfl, rfl⟩ ?_
    rintro q E' H' ⟨j, ver, ac, hj1, hjq, hjk, hacl, hq64, rfl, rfl, hin⟩
    have hp5 : p ≤ 5 := by
      apply Classical.byContradiction
      intro hc
      have : 6 * 6 ≤ p * p := Nat.mul_le_mul (by omega) (by omega)
      omega
    have htl : (ac.map I).take ac.length = ac.map I := List.take_of_length_le (by simp)
    have hdm := Nat.div_add_mod j p
    simp (config := { maxSteps := 1000000 }) (disch := (first | omega | (simp only [go_sem]; try omega))) only [go_sem, Nat.reduceAdd, Nat.reduceEqDiff, Nat.reduceLeDiff, Nat.reduceMul, Nat.reduceLT, reduceIte, Int.reduceToNat, w64_id, cast_succ]
    repeat (first | (with_reducible first | refine SW.seq ?_ | refine SW.block ?_ | refine SW.rowC ?_ | refine SW.skip ?_ | refine SW.exit ?_ | intro _ | refine And.intro (by omega) ?_) | simp (config := { maxSteps := 1000000 }) (disch := (first | omega | (simp only [go_sem]; try omega))) only [go_sem, Nat.reduceAdd, Nat.reduceEqDiff, Nat.reduceLeDiff, Nat.reduceMul, Nat.reduceLT, reduceIte, Int.reduceToNat, w64_id, cast_succ, tmodN])
    (first | refine SW.condD rfl (fun h5 => ?_) (fun h5 => ?_) | refine SW.condN rfl (fun h5 => ?_) (fun h5 => ?_) | refine SW.condNB rfl (fun h5 => ?_) (fun h5 => ?_) | refine SW.condB rfl (fun h5 => ?_) (fun h5 => ?_))
    · have h5' : j % p = 0 := by omega
      obtain ⟨g, rfl⟩ : ∃ g, q = g + 1 := ⟨q - 1, by omega⟩
      rw [show inn p (g + 1) j ac = if j % p = 0 then inn p g (j / p) (ac ++ [(p : Int)]) else (j, ac) from rfl, if_pos h5'] at hin
      have hjp : j / p < j := Nat.div_lt_self (by omega) (by omega)
      have hjp1 : 1 ≤ j / p := by
        rcases Nat.eq_zero_or_pos (j / p) with h0 | h0
        · rw [h0, h5'] at hdm; omega
        · exact h0
      repeat (first | (with_reducible first | refine SW.seq ?_ | refine SW.block ?_ | refine SW.rowC ?_ | refine SW.skip ?_ | refine SW.exit ?_ | intro _ | refine And.intro (by omega) ?_) | simp (config := { maxSteps := 1000000 }) (disch := (first | omega | (simp only [go_sem]; try omega))) only [go_sem, Nat.reduceAdd, Nat.reduceEqDiff, Nat.reduceLeDiff, Nat.reduceMul, Nat.reduceLT, reduceIte, Int.reduceToNat, w64_id, cast_succ, tdivN, htl])
      refine SLoop.nextT 1 g hB (by omega) (by omega) (by simp) ?_ ?_ ⟨j / p, ver + 1, ac ++ [(p : Int)], by omega, by omega, by omega, by simp; omega, by omega, ?_, ?_, hin⟩
      · (simp only [go_sem, Nat.reduceAdd, Nat.reduceEqDiff, reduceIte, go_sem, and_self, and_true, true_and, implies_true, List.take_succ_cons, List.take_zero, and_true, true_and]; try omega)
      · (simp only [go_sem, Nat.reduceAdd, Nat.reduceEqDiff, reduceIte, go_sem, and_self, and_true, true_and, implies_true, List.take_succ_cons, List.take_zero, and_true, true_and]; try omega)
      · simp [go_sem]
      · simp
    · have h5' : ¬ j % p = 0 := by omega
      have hin2 : inn p 64 k acc = (j, ac) := by
        rw [hin]
        cases q with
        | zero => rfl
        | succ g => rw [show inn p (g + 1) j ac = if j % p = 0 then inn p g (j / p) (ac ++ [(p : Int)]) else (j, ac) from rfl, if_neg h5']
      rw [hin2] at hfa
      repeat (first | (with_reducible first | refine SW.seq ?_ | refine SW.block ?_ | refine SW.rowC ?_ | refine SW.skip ?_ | refine SW.exit ?_ | intro _ | refine And.intro (by omega) ?_) | simp (config := { maxSteps := 1000000 }) (disch := (first | omega | (simp only [go_sem]; try omega))) only [go_sem, Nat.reduceAdd, Nat.reduceEqDiff, Nat.reduceLeDiff, Nat.reduceMul, Nat.reduceLT, reduceIte, Int.reduceToNat, w64_id, cast_succ])
      refine SLoop.next f (by omega) ⟨p + 1, j, ver, ac, by omega, by omega, by omega, by omega, by omega, by omega, ?_, rfl, hfa⟩
      simp [go_sem]
  · have h3' : ¬ p * p ≤ k := by omega
    have hfa2 : facs q k p acc = if 1 < k then acc ++ [(k : Int)] else acc := by
      cases q with
      | zero => exfalso; omega
      | succ f => rw [facs, if_neg h3']
    rw [hfa, hfa2]
    repeat (first | (with_reducible first | refine SW.seq ?_ | refine SW.block ?_ | refine SW.rowC ?_ | refine SW.skip ?_ | refine SW.exit ?_ | intro _ | refine And.intro (by omega) ?_) | simp (config := { maxSteps := 1000000 }) (disch := (first | omega | (simp only [go_sem]; try omega))) only [go_sem, Nat.reduceAdd, Nat.reduceEqDiff, Nat.reduceLeDiff, Nat.reduceMul, Nat.reduceLT, reduceIte, Int.reduceToNat, w64_id, cast_succ])
    by_cases hk : 1 < k
    · rw [if_pos hk]
      have hkd : decide (1 < (k : Int)) = true := decide_eq_true (by omega)
      repeat (first | (with_reducible first | refine SW.seq ?_ | refine SW.block ?_ | refine SW.rowC ?_ | refine SW.skip ?_ | refine SW.exit ?_ | intro _ | refine And.intro (by omega) ?_) | simp (config := { maxSteps := 1000000 }) (disch := (first | omega | (simp only [go_sem]; try omega))) only [go_sem, Nat.reduceAdd, Nat.reduceEqDiff, Nat.reduceLeDiff, Nat.reduceMul, Nat.reduceLT, reduceIte, Int.reduceToNat, w64_id, cast_succ, hkd])
      refine SW.condT rfl ?_
      have htl : (acc.map I).take acc.length = acc.map I := List.take_of_length_le (by simp)
      repeat (first | (with_reducible first | refine SW.seq ?_ | refine SW.block ?_ | refine SW.rowC ?_ | refine SW.skip ?_ | refine SW.exit ?_ | intro _ | refine And.intro (by omega) ?_) | simp (config := { maxSteps := 1000000 }) (disch := (first | omega | (simp only [go_sem]; try omega))) only [go_sem, Nat.reduceAdd, Nat.reduceEqDiff, Nat.reduceLeDiff, Nat.reduceMul, Nat.reduceLT, reduceIte, Int.reduceToNat, w64_id, cast_succ, htl])
      refine SW.ret ?_; (try simp only [go_sem]); (first | refine FunPost.one ?_ | refine FunPost.two ?_ | refine FunPost.three ?_); (try simp (config := { maxSteps := 1000000 }) (disch := (first | omega | (simp only [go_sem]; try omega))) only [go_sem, Nat.reduceAdd, Nat.reduceEqDiff, Nat.reduceLeDiff, Nat.reduceMul, Nat.reduceLT, reduceIte, Int.reduceToNat, w64_id, cast_succ])
      refine GR.froz (r' := ilS (acc ++ [(k : Int)])) ?_ ⟨rfl, rfl⟩
      have e := froz_rowI (H := H ++ [⟨ver + 1, 2, 1, (acc ++ [(k : Int)]).map I⟩, ⟨0, 2, 1, [I k]⟩]) (b := H.length) (r := H.length) (ver := ver + 1) (ty := 2) (xs := acc ++ [(k : Int)]) (Nat.le_refl _) (by simp)
      rw [List.length_append] at e
      exact e
    · rw [if_neg hk]
      have hkd : decide (1 < (k : Int)) = false := decide_eq_false (by omega)
      repeat (first | (with_reducible first | refine SW.seq ?_ | refine SW.block ?_ | refine SW.rowC ?_ | refine SW.skip ?_ | refine SW.exit ?_ | intro _ | refine And.intro (by omega) ?_) | simp (config := { maxSteps := 1000000 }) (disch := (first | omega | (simp only [go_sem]; try omega))) only [go_sem, Nat.reduceAdd, Nat.reduceEqDiff, Nat.reduceLeDiff, Nat.reduceMul, Nat.reduceLT, reduceIte, Int.reduceToNat, w64_id, cast_succ, hkd])
      refine SW.condF rfl ?_
      repeat (first | (with_reducible first | refine SW.seq ?_ | refine SW.block ?_ | refine SW.rowC ?_ | refine SW.skip ?_ | refine SW.exit ?_ | intro _ | refine And.intro (by omega) ?_) | simp (config := { maxSteps := 1000000 }) (disch := (first | omega | (simp only [go_sem]; try omega))) only [go_sem, Nat.reduceAdd, Nat.reduceEqDiff, Nat.reduceLeDiff, Nat.reduceMul, Nat.reduceLT, reduceIte, Int.reduceToNat, w64_id, cast_succ])
      refine SW.ret ?_; (try simp only [go_sem]); (first | refine FunPost.one ?_ | refine FunPost.two ?_ | refine FunPost.three ?_); (try simp (config := { maxSteps := 1000000 }) (disch := (first | omega | (simp only [go_sem]; try omega))) only [go_sem, Nat.reduceAdd, Nat.reduceEqDiff, Nat.reduceLeDiff, Nat.reduceMul, Nat.reduceLT, reduceIte, Int.reduceToNat, w64_id, cast_succ])
      exact GR.froz (froz_rowI (r := H.length) (ver := ver) (ty := 2) (Nat.le_refl _) (by simp)) ⟨rfl, rfl⟩

/-! ### The powers -/
def pw (m : Nat) : Nat → Nat → Nat → Nat → Nat
  | 0, out, _, _ => out
  | f + 1, out, a, e => if 0 < e then pw m f (if e % 2 = 1 then out * a % m else out) (a * a % m) (e / 2) else out
theorem specPower_fn (a e m : Nat) (hm : 1 ≤ m) (hm2 : m ≤ 32) (ha : a < m) (he : e ≤ 1000) : PFn Try.prog f_spec_l02Power [I a, I e, I m] (I (pw m (e + 1) (1 % m) a e)) := by
  intro H; refine ACalls.introB s_spec_l02Power (by simp) ?_; intro hB hA; unfold c_spec_l02Power; simp (config := { maxSteps := 1000000 }) (disch := (first | omega | (simp only [go_sem]; try omega))) only [go_sem, Nat.reduceAdd, Nat.reduceEqDiff, Nat.reduceLeDiff, Nat.reduceMul, Nat.reduceLT, reduceIte, Int.reduceToNat, w64_id, cast_succ]
  have hm0 : ¬ (m : Int) = 0 := by omega
  have e1 : (1 : Int).tmod (m : Int) = ((1 % m : Nat) : Int) := @tmodN 1 m
  repeat (first | (with_reducible first | refine SW.seq ?_ | refine SW.block ?_ | refine SW.rowC ?_ | refine SW.skip ?_ | refine SW.exit ?_ | intro _ | refine And.intro (by omega) ?_) | simp (config := { maxSteps := 1000000 }) (disch := (first | omega | (simp only [go_sem]; try omega))) only [go_sem, Nat.reduceAdd, Nat.reduceEqDiff, Nat.reduceLeDiff, Nat.reduceMul, Nat.reduceLT, reduceIte, Int.reduceToNat, w64_id, cast_succ, e1])
  generalize hZ : pw m (e + 1) (1 % m) a e = Z
  refine SW.loopE (fun E0 H0 q E' H' => ∃ (o b c : Nat), o < m + 1 ∧ b < m ∧ c ≤ 1000 ∧ c < q ∧ E' = aput (aput (aput E0 0 (I b)) 1 (I c)) 7 (I o) ∧ H' = H0 ∧ Z = pw m q o b c) (e + 1) ⟨1 % m, a, e, by have := Nat.mod_lt 1 (show m > 0 by omega); omega, ha, he, by omega, rfl, rfl, hZ.symm⟩ ?_
  rintro q E' H' ⟨o, b, c, ho, hb, hc, hcq, rfl, rfl, hpw⟩
  obtain ⟨f, rfl⟩ : ∃ f, q = f + 1 := ⟨q - 1, by omega⟩
  have hob : o * b ≤ 33 * 33 := Nat.mul_le_mul (by omega) (by omega)
  have hbb : b * b ≤ 33 * 33 := Nat.mul_le_mul (by omega) (by omega)
  have e2 : (o : Int) * (b : Int) = ((o * b : Nat) : Int) := by simp
  have e3 : (b : Int) * (b : Int) = ((b * b : Nat) : Int) := by simp
  have e4 : (c : Int).tmod 2 = ((c % 2 : Nat) : Int) := @tmodN c 2
  have e5 : (c : Int).tdiv 2 = ((c / 2 : Nat) : Int) := @tdivN c 2
  have hm1 := Nat.mod_lt (o * b) (show m > 0 by omega)
  have hm2 := Nat.mod_lt (b * b) (show m > 0 by omega)
  rw [show pw m (f + 1) o b c = if 0 < c then pw m f (if c % 2 = 1 then o * b % m else o) (b * b % m) (c / 2) else o from rfl] at hpw
  simp (config := { maxSteps := 1000000 }) (disch := (first | omega | (simp only [go_sem]; try omega))) only [go_sem, Nat.reduceAdd, Nat.reduceEqDiff, Nat.reduceLeDiff, Nat.reduceMul, Nat.reduceLT, reduceIte, Int.reduceToNat, w64_id, cast_succ]
  repeat (first | (with_reducible first | refine SW.seq ?_ | refine SW.block ?_ | refine SW.rowC ?_ | refine SW.skip ?_ | refine SW.exit ?_ | intro _ | refine And.intro (by omega) ?_) | simp (config := { maxSteps := 1000000 }) (disch := (first | omega | (simp only [go_sem]; try omega))) only [go_sem, Nat.reduceAdd, Nat.reduceEqDiff, Nat.reduceLeDiff, Nat.reduceMul, Nat.reduceLT, reduceIte, Int.reduceToNat, w64_id, cast_succ])
  (first | refine SW.condD rfl (fun h3 => ?_) (fun h3 => ?_) | refine SW.condN rfl (fun h3 => ?_) (fun h3 => ?_) | refine SW.condNB rfl (fun h3 => ?_) (fun h3 => ?_) | refine SW.condB rfl (fun h3 => ?_) (fun h3 => ?_))
  · rw [if_pos (by omega)] at hpw
    by_cases hc2 : c % 2 = 1
    · rw [if_pos hc2] at hpw
      have hcd : decide (((c % 2 : Nat) : Int) = 1) = true := decide_eq_true (by omega)
      repeat (first | (with_reducible first | refine SW.seq ?_ | refine SW.block ?_ | refine SW.rowC ?_ | refine SW.skip ?_ | refine SW.exit ?_ | intro _ | refine And.intro (by omega) ?_) | simp (config := { maxSteps := 1000000 }) (disch := (first | omega | (simp only [go_sem]; try omega))) only [go_sem, Nat.reduceAdd, Nat.reduceEqDiff, Nat.reduceLeDiff, Nat.reduceMul, Nat.reduceLT, reduceIte, Int.reduceToNat, w64_id, cast_succ, e4, hcd])
      refine SW.condT rfl ?_
      repeat (first | (with_reducible first | refine SW.seq ?_ | refine SW.block ?_ | refine SW.rowC ?_ | refine SW.skip ?_ | refine SW.exit ?_ | intro _ | refine And.intro (by omega) ?_) | simp (config := { maxSteps := 1000000 }) (disch := (first | omega | (simp only [go_sem]; try omega))) only [go_sem, Nat.reduceAdd, Nat.reduceEqDiff, Nat.reduceLeDiff, Nat.reduceMul, Nat.reduceLT, reduceIte, Int.reduceToNat, w64_id, cast_succ, e2, e3, e5, tmodN])
      refine SLoop.next f (by omega) ⟨o * b % m, b * b % m, c / 2, by omega, by omega, by omega, by omega, ?_, rfl, hpw⟩
      simp [go_sem]
    · rw [if_neg hc2] at hpw
      have hcd : decide (((c % 2 : Nat) : Int) = 1) = false := decide_eq_false (by omega)
      repeat (first | (with_reducible first | refine SW.seq ?_ | refine SW.block ?_ | refine SW.rowC ?_ | refine SW.skip ?_ | refine SW.exit ?_ | intro _ | refine And.intro (by omega) ?_) | simp (config := { maxSteps := 1000000 }) (disch := (first | omega | (simp only [go_sem]; try omega))) only [go_sem, Nat.reduceAdd, Nat.reduceEqDiff, Nat.reduceLeDiff, Nat.reduceMul, Nat.reduceLT, reduceIte, Int.reduceToNat, w64_id, cast_succ, e4, hcd])
      refine SW.condF rfl ?_
      repeat (first | (with_reducible first | refine SW.seq ?_ | refine SW.block ?_ | refine SW.rowC ?_ | refine SW.skip ?_ | refine SW.exit ?_ | intro _ | refine And.intro (by omega) ?_) | simp (config := { maxSteps := 1000000 }) (disch := (first | omega | (simp only [go_sem]; try omega))) only [go_sem, Nat.reduceAdd, Nat.reduceEqDiff, Nat.reduceLeDiff, Nat.reduceMul, Nat.reduceLT, reduceIte, Int.reduceToNat, w64_id, cast_succ, e2, e3, e5, tmodN])
      refine SLoop.next f (by omega) ⟨o, b * b % m, c / 2, by omega, by omega, by omega, by omega, ?_, rfl, hpw⟩
      simp [go_sem]
  · rw [if_neg (by omega)] at hpw
    repeat (first | (with_reducible first | refine SW.seq ?_ | refine SW.block ?_ | refine SW.rowC ?_ | refine SW.skip ?_ | refine SW.exit ?_ | intro _ | refine And.intro (by omega) ?_) | simp (config := { maxSteps := 1000000 }) (disch := (first | omega | (simp only [go_sem]; try omega))) only [go_sem, Nat.reduceAdd, Nat.reduceEqDiff, Nat.reduceLeDiff, Nat.reduceMul, Nat.reduceLT, reduceIte, Int.reduceToNat, w64_id, cast_succ])
    refine SW.ret ?_; (try simp only [go_sem]); (first | refine FunPost.one ?_ | refine FunPost.two ?_ | refine FunPost.three ?_); (try simp (config := { maxSteps := 1000000 }) (disch := (first | omega | (simp only [go_sem]; try omega))) only [go_sem, Nat.reduceAdd, Nat.reduceEqDiff, Nat.reduceLeDiff, Nat.reduceMul, Nat.reduceLT, reduceIte, Int.reduceToNat, w64_id, cast_succ]); (first | (with_reducible refine GR.drop ?_ ?_; (simp only [go_sem, and_self, and_true, true_and, implies_true, List.take_succ_cons, List.take_zero])) | refine GR.of ?_); refine ⟨?_, rfl⟩; (try with_reducible rfl)
    rw [hpw]

theorem isModulus_fn (m : Int) : PFn Try.prog f_impl_isModulus [I m] (Bv (decide (1 ≤ m) && decide (m ≤ 1000))) := by
  intro H; refine ACalls.introB s_impl_isModulus (by simp) ?_; intro hB hA; unfold c_impl_isModulus; simp (config := { maxSteps := 1000000 }) (disch := (first | omega | (simp only [go_sem]; try omega))) only [go_sem, Nat.reduceAdd, Nat.reduceEqDiff, Nat.reduceLeDiff, Nat.reduceMul, Nat.reduceLT, reduceIte, Int.reduceToNat, w64_id, cast_succ]
  repeat (first | (with_reducible first | refine SW.seq ?_ | refine SW.block ?_ | refine SW.rowC ?_ | refine SW.skip ?_ | refine SW.exit ?_ | refine PFn.use (within_fn _ _ _) ?_ | refine PFn.useq (within_fn _ _ _) ?_ | intro _ | refine And.intro (by omega) ?_) | simp (config := { maxSteps := 1000000 }) (disch := (first | omega | (simp only [go_sem]; try omega))) only [go_sem, Nat.reduceAdd, Nat.reduceEqDiff, Nat.reduceLeDiff, Nat.reduceMul, Nat.reduceLT, reduceIte, Int.reduceToNat, w64_id, cast_succ])
  refine SW.ret ?_; (try simp only [go_sem]); (first | refine FunPost.one ?_ | refine FunPost.two ?_ | refine FunPost.three ?_); (try simp (config := { maxSteps := 1000000 }) (disch := (first | omega | (simp only [go_sem]; try omega))) only [go_sem, Nat.reduceAdd, Nat.reduceEqDiff, Nat.reduceLeDiff, Nat.reduceMul, Nat.reduceLT, reduceIte, Int.reduceToNat, w64_id, cast_succ]); (first | (with_reducible refine GR.drop ?_ ?_; (simp only [go_sem, and_self, and_true, true_and, implies_true, List.take_succ_cons, List.take_zero])) | refine GR.of ?_); refine ⟨?_, rfl⟩; (try with_reducible rfl)
theorem isResidue_fn (a m : Nat) (hm : 1 ≤ m) (hm2 : m ≤ 32) (ha : a < m) : PFn Try.prog f_impl_isResidue [I a, I m] (Bv true) := by
  intro H; refine ACalls.introB s_impl_isResidue (by simp) ?_; intro hB hA; unfold c_impl_isResidue; simp (config := { maxSteps := 1000000 }) (disch := (first | omega | (simp only [go_sem]; try omega))) only [go_sem, Nat.reduceAdd, Nat.reduceEqDiff, Nat.reduceLeDiff, Nat.reduceMul, Nat.reduceLT, reduceIte, Int.reduceToNat, w64_id, cast_succ]
  have h1 : (decide ((1 : Int) ≤ (m : Int)) && decide ((m : Int) ≤ 1000)) = true := by simp; omega
  have h2 : (decide ((0 : Int) ≤ (a : Int)) && decide ((a : Int) ≤ (m : Int) - 1)) = true := by simp; omega
  repeat (first | (with_reducible first | refine SW.seq ?_ | refine SW.block ?_ | refine SW.rowC ?_ | refine SW.skip ?_ | refine SW.exit ?_ | refine PFn.use (isModulus_fn _) ?_ | refine PFn.useq (isModulus_fn _) ?_ | refine PFn.use (within_fn _ _ _) ?_ | refine PFn.useq (within_fn _ _ _) ?_ | intro _ | refine And.intro (by omega) ?_) | simp (config := { maxSteps := 1000000 }) (disch := (first | omega | (simp only [go_sem]; try omega))) only [go_sem, Nat.reduceAdd, Nat.reduceEqDiff, Nat.reduceLeDiff, Nat.reduceMul, Nat.reduceLT, reduceIte, Int.reduceToNat, w64_id, cast_succ, h1, h2])
  refine SW.ret ?_; (try simp only [go_sem]); (first | refine FunPost.one ?_ | refine FunPost.two ?_ | refine FunPost.three ?_); (try simp (config := { maxSteps := 1000000 }) (disch := (first | omega | (simp only [go_sem]; try omega))) only [go_sem, Nat.reduceAdd, Nat.reduceEqDiff, Nat.reduceLeDiff, Nat.reduceMul, Nat.reduceLT, reduceIte, Int.reduceToNat, w64_id, cast_succ]); (first | (with_reducible refine GR.drop ?_ ?_; (simp only [go_sem, and_self, and_true, true_and, implies_true, List.take_succ_cons, List.take_zero])) | refine GR.of ?_); refine ⟨?_, rfl⟩; (try with_reducible rfl)
theorem PowerMod_fn (a e m : Nat) (hm : 1 ≤ m) (hm2 : m ≤ 32) (ha : a < m) (he : e ≤ 1000) : PFn Try.prog f_impl_PowerMod [I a, I e, I m] (.tup [I (pw m (e + 1) (1 % m) a e), I 0]) := by
  intro H; refine ACalls.introB s_impl_PowerMod (by simp) ?_; intro hB hA; unfold c_impl_PowerMod; simp (config := { maxSteps := 1000000 }) (disch := (first | omega | (simp only [go_sem]; try omega))) only [go_sem, Nat.reduceAdd, Nat.reduceEqDiff, Nat.reduceLeDiff, Nat.reduceMul, Nat.reduceLT, reduceIte, Int.reduceToNat, w64_id, cast_succ]
  have hm0 : ¬ (m : Int) = 0 := by omega
  have e1 : (1 : Int).tmod (m : Int) = ((1 % m : Nat) : Int) := @tmodN 1 m
  have h1 : (decide ((0 : Int) ≤ (e : Int)) && decide ((e : Int) ≤ 1000000)) = true := by simp; omega
  repeat (first | (with_reducible first | refine SW.seq ?_ | refine SW.block ?_ | refine SW.rowC ?_ | refine SW.skip ?_ | refine SW.exit ?_ | refine PFn.use (isResidue_fn a m hm hm2 ha) ?_ | refine PFn.useq (isResidue_fn a m hm hm2 ha) ?_ | refine PFn.use (within_fn _ _ _) ?_ | refine PFn.useq (within_fn _ _ _) ?_ | intro _ | refine And.intro (by omega) ?_) | simp (config := { maxSteps := 1000000 }) (disch := (first | omega | (simp only [go_sem]; try omega))) only [go_sem, Nat.reduceAdd, Nat.reduceEqDiff, Nat.reduceLeDiff, Nat.reduceMul, Nat.reduceLT, reduceIte, Int.reduceToNat, w64_id, cast_succ, e1, h1])
  refine SW.condF rfl ?_
  repeat (first | (with_reducible first | refine SW.seq ?_ | refine SW.block ?_ | refine SW.rowC ?_ | refine SW.skip ?_ | refine SW.exit ?_ | intro _ | refine And.intro (by omega) ?_) | simp (config := { maxSteps := 1000000 }) (disch := (first | omega | (simp only [go_sem]; try omega))) only [go_sem, Nat.reduceAdd, Nat.reduceEqDiff, Nat.reduceLeDiff, Nat.reduceMul, Nat.reduceLT, reduceIte, Int.reduceToNat, w64_id, cast_succ, e1])
  generalize hZ : pw m (e + 1) (1 % m) a e = Z
  refine SW.loopE (fun E0 H0 q E' H' => ∃ (o b c : Nat), o < m + 1 ∧ b < m ∧ c ≤ 1000 ∧ c < q ∧ E' = aput (aput (aput E0 0 (I b)) 1 (I c)) 8 (I o) ∧ H' = H0 ∧ Z = pw m q o b c) (e + 1) ⟨1 % m, a, e, by have := Nat.mod_lt 1 (show m > 0 by omega); omega, ha, he, by omega, rfl, rfl, hZ.symm⟩ ?_
  rintro q E' H' ⟨o, b, c, ho, hb, hc, hcq, rfl, rfl, hpw⟩
  obtain ⟨f, rfl⟩ : ∃ f, q = f + 1 := ⟨q - 1, by omega⟩
  have hob : o * b ≤ 33 * 33 := Nat.mul_le_mul (by omega) (by omega)
  have hbb : b * b ≤ 33 * 33 := Nat.mul_le_mul (by omega) (by omega)
  have e2 : (o : Int) * (b : Int) = ((o * b : Nat) : Int) := by simp
  have e3 : (b : Int) * (b : Int) = ((b * b : Nat) : Int) := by simp
  have e4 : (c : Int).tmod 2 = ((c % 2 : Nat) : Int) := @tmodN c 2
  have e5 : (c : Int).tdiv 2 = ((c / 2 : Nat) : Int) := @tdivN c 2
  have hm1 := Nat.mod_lt (o * b) (show m > 0 by omega)
  have hm2 := Nat.mod_lt (b * b) (show m > 0 by omega)
  rw [show pw m (f + 1) o b c = if 0 < c then pw m f (if c % 2 = 1 then o * b % m else o) (b * b % m) (c / 2) else o from rfl] at hpw
  simp (config := { maxSteps := 1000000 }) (disch := (first | omega | (simp only [go_sem]; try omega))) only [go_sem, Nat.reduceAdd, Nat.reduceEqDiff, Nat.reduceLeDiff, Nat.reduceMul, Nat.reduceLT, reduceIte, Int.reduceToNat, w64_id, cast_succ]
  repeat (first | (with_reducible first | refine SW.seq ?_ | refine SW.block ?_ | refine SW.rowC ?_ | refine SW.skip ?_ | refine SW.exit ?_ | intro _ | refine And.intro (by omega) ?_) | simp (config := { maxSteps := 1000000 }) (disch := (first | omega | (simp only [go_sem]; try omega))) only [go_sem, Nat.reduceAdd, Nat.reduceEqDiff, Nat.reduceLeDiff, Nat.reduceMul, Nat.reduceLT, reduceIte, Int.reduceToNat, w64_id, cast_succ])
  (first | refine SW.condD rfl (fun h3 => ?_) (fun h3 => ?_) | refine SW.condN rfl (fun h3 => ?_) (fun h3 => ?_) | refine SW.condNB rfl (fun h3 => ?_) (fun h3 => ?_) | refine SW.condB rfl (fun h3 => ?_) (fun h3 => ?_))
  · rw [if_pos (by omega)] at hpw
    by_cases hc2 : c % 2 = 1
    · rw [if_pos hc2] at hpw
      have hcd : decide (((c % 2 : Nat) : Int) = 1) = true := decide_eq_true (by omega)
      repeat (first | (with_reducible first | refine SW.seq ?_ | refine SW.block ?_ | refine SW.rowC ?_ | refine SW.skip ?_ | refine SW.exit ?_ | intro _ | refine And.intro (by omega) ?_) | simp (config := { maxSteps := 1000000 }) (disch := (first | omega | (simp only [go_sem]; try omega))) only [go_sem, Nat.reduceAdd, Nat.reduceEqDiff, Nat.reduceLeDiff, Nat.reduceMul, Nat.reduceLT, reduceIte, Int.reduceToNat, w64_id, cast_succ, e4, hcd])
      refine SW.condT rfl ?_
      repeat (first | (with_reducible first | refine SW.seq ?_ | refine SW.block ?_ | refine SW.rowC ?_ | refine SW.skip ?_ | refine SW.exit ?_ | intro _ | refine And.intro (by omega) ?_) | simp (config := { maxSteps := 1000000 }) (disch := (first | omega | (simp only [go_sem]; try omega))) only [go_sem, Nat.reduceAdd, Nat.reduceEqDiff, Nat.reduceLeDiff, Nat.reduceMul, Nat.reduceLT, reduceIte, Int.reduceToNat, w64_id, cast_succ, e2, e3, e5, tmodN])
      refine SLoop.next f (by omega) ⟨o * b % m, b * b % m, c / 2, by omega, by omega, by omega, by omega, ?_, rfl, hpw⟩
      simp [go_sem]
    · rw [if_neg hc2] at hpw
      have hcd : decide (((c % 2 : Nat) : Int) = 1) = false := decide_eq_false (by omega)
      repeat (first | (with_reducible first | refine SW.seq ?_ | refine SW.block ?_ | refine SW.rowC ?_ | refine SW.skip ?_ | refine SW.exit ?_ | intro _ | refine And.intro (by omega) ?_) | simp (config := { maxSteps := 1000000 }) (disch := (first | omega | (simp only [go_sem]; try omega))) only [go_sem, Nat.reduceAdd, Nat.reduceEqDiff, Nat.reduceLeDiff, Nat.reduceMul, Nat.reduceLT, reduceIte, Int.reduceToNat, w64_id, cast_succ, e4, hcd])
      refine SW.condF rfl ?_
      repeat (first | (with_reducible first | refine SW.seq ?_ | refine SW.block ?_ | refine SW.rowC ?_ | refine SW.skip ?_ | refine SW.exit ?_ | intro _ | refine And.intro (by omega) ?_) | simp (config := { maxSteps := 1000000 }) (disch := (first | omega | (simp only [go_sem]; try omega))) only [go_sem, Nat.reduceAdd, Nat.reduceEqDiff, Nat.reduceLeDiff, Nat.reduceMul, Nat.reduceLT, reduceIte, Int.reduceToNat, w64_id, cast_succ, e2, e3, e5, tmodN])
      refine SLoop.next f (by omega) ⟨o, b * b % m, c / 2, by omega, by omega, by omega, by omega, ?_, rfl, hpw⟩
      simp [go_sem]
  · rw [if_neg (by omega)] at hpw
    repeat (first | (with_reducible first | refine SW.seq ?_ | refine SW.block ?_ | refine SW.rowC ?_ | refine SW.skip ?_ | refine SW.exit ?_ | intro _ | refine And.intro (by omega) ?_) | simp (config := { maxSteps := 1000000 }) (disch := (first | omega | (simp only [go_sem]; try omega))) only [go_sem, Nat.reduceAdd, Nat.reduceEqDiff, Nat.reduceLeDiff, Nat.reduceMul, Nat.reduceLT, reduceIte, Int.reduceToNat, w64_id, cast_succ])
    refine SW.ret ?_; (try simp only [go_sem]); (first | refine FunPost.one ?_ | refine FunPost.two ?_ | refine FunPost.three ?_); (try simp (config := { maxSteps := 1000000 }) (disch := (first | omega | (simp only [go_sem]; try omega))) only [go_sem, Nat.reduceAdd, Nat.reduceEqDiff, Nat.reduceLeDiff, Nat.reduceMul, Nat.reduceLT, reduceIte, Int.reduceToNat, w64_id, cast_succ]); (first | (with_reducible refine GR.drop ?_ ?_; (simp only [go_sem, and_self, and_true, true_and, implies_true, List.take_succ_cons, List.take_zero])) | refine GR.of ?_); refine ⟨?_, rfl⟩; (try with_reducible rfl)
    rw [hpw]

theorem FactorsOf_none (n : Int) (h : n < 1) : PFn Try.prog f_impl_FactorsOf [I n] nilS := by
  intro H; refine ACalls.introB s_impl_FactorsOf (by simp) ?_; intro hB hA; unfold c_impl_FactorsOf; simp (config := { maxSteps := 1000000 }) (disch := (first | omega | (simp only [go_sem]; try omega))) only [go_sem, Nat.reduceAdd, Nat.reduceEqDiff, Nat.reduceLeDiff, Nat.reduceMul, Nat.reduceLT, reduceIte, Int.reduceToNat, w64_id, cast_succ]
  have hb : (decide ((1 : Int) ≤ n) && decide (n ≤ 1000000)) = false := by simp; omega
  repeat (first | (with_reducible first | refine SW.seq ?_ | refine SW.block ?_ | refine SW.rowC ?_ | refine SW.skip ?_ | refine SW.exit ?_ | refine PFn.use (within_fn _ _ _) ?_ | refine PFn.useq (within_fn _ _ _) ?_ | intro _ | refine And.intro (by omega) ?_) | simp (config := { maxSteps := 1000000 }) (disch := (first | omega | (simp only [go_sem]; try omega))) only [go_sem, Nat.reduceAdd, Nat.reduceEqDiff, Nat.reduceLeDiff, Nat.reduceMul, Nat.reduceLT, reduceIte, Int.reduceToNat, w64_id, cast_succ, hb])
  refine SW.condT rfl ?_
  repeat (first | (with_reducible first | refine SW.seq ?_ | refine SW.block ?_ | refine SW.rowC ?_ | refine SW.skip ?_ | refine SW.exit ?_ | intro _ | refine And.intro (by omega) ?_) | simp (config := { maxSteps := 1000000 }) (disch := (first | omega | (simp only [go_sem]; try omega))) only [go_sem, Nat.reduceAdd, Nat.reduceEqDiff, Nat.reduceLeDiff, Nat.reduceMul, Nat.reduceLT, reduceIte, Int.reduceToNat, w64_id, cast_succ])
  refine SW.ret ?_; (try simp only [go_sem]); (first | refine FunPost.one ?_ | refine FunPost.two ?_ | refine FunPost.three ?_); (try simp (config := { maxSteps := 1000000 }) (disch := (first | omega | (simp only [go_sem]; try omega))) only [go_sem, Nat.reduceAdd, Nat.reduceEqDiff, Nat.reduceLeDiff, Nat.reduceMul, Nat.reduceLT, reduceIte, Int.reduceToNat, w64_id, cast_succ]); (first | (with_reducible refine GR.drop ?_ ?_; (simp only [go_sem, and_self, and_true, true_and, implies_true, List.take_succ_cons, List.take_zero])) | refine GR.of ?_); refine ⟨?_, rfl⟩; (try with_reducible rfl)
theorem primes32 : ((List.range 33).all fun n => decide (n = 0) || (decide ((facs 64 n 2 []).length = 1) == primeS n)) = true := by decide +kernel
theorem implIsPrime_fn (n : Int) (h : n ≤ 32) : PFn Try.prog f_impl_IsPrime [I n] (Bv (primeS n)) := by
  by_cases h1 : 1 ≤ n
  · obtain ⟨k, rfl⟩ := Int.eq_ofNat_of_zero_le (show 0 ≤ n by omega)
    have hp := List.all_eq_true.1 primes32 k (by simp; omega)
    have hk : decide (k = 0) = false := decide_eq_false (by omega)
    rw [hk, Bool.false_or] at hp
    have hp2 : primeS (k : Int) = decide ((facs 64 k 2 []).length = 1) := (eq_of_beq hp).symm
    rw [hp2]
    intro H; refine ACalls.introB s_impl_IsPrime (by simp) ?_; intro hB hA; unfold c_impl_IsPrime; simp (config := { maxSteps := 1000000 }) (disch := (first | omega | (simp only [go_sem]; try omega))) only [go_sem, Nat.reduceAdd, Nat.reduceEqDiff, Nat.reduceLeDiff, Nat.reduceMul, Nat.reduceLT, reduceIte, Int.reduceToNat, w64_id, cast_succ]
    repeat (first | (with_reducible first | refine SW.seq ?_ | refine SW.block ?_ | refine SW.rowC ?_ | refine SW.skip ?_ | refine SW.exit ?_ | refine PFn.use (FactorsOf_fn k (by omega) (by omega)) ?_ | refine PFn.useq (FactorsOf_fn k (by omega) (by omega)) ?_ | intro _ | refine And.intro (by omega) ?_) | simp (config := { maxSteps := 1000000 }) (disch := (first | omega | (simp only [go_sem]; try omega))) only [go_sem, Nat.reduceAdd, Nat.reduceEqDiff, Nat.reduceLeDiff, Nat.reduceMul, Nat.reduceLT, reduceIte, Int.reduceToNat, w64_id, cast_succ])
    refine SW.ret ?_; (try simp only [go_sem]); (first | refine FunPost.one ?_ | refine FunPost.two ?_ | refine FunPost.three ?_); (try simp (config := { maxSteps := 1000000 }) (disch := (first | omega | (simp only [go_sem]; try omega))) only [go_sem, Nat.reduceAdd, Nat.reduceEqDiff, Nat.reduceLeDiff, Nat.reduceMul, Nat.reduceLT, reduceIte, Int.reduceToNat, w64_id, cast_succ]); (first | (with_reducible refine GR.drop ?_ ?_; (simp only [go_sem, and_self, and_true, true_and, implies_true, List.take_succ_cons, List.take_zero])) | refine GR.of ?_); refine ⟨?_, rfl⟩; (try with_reducible rfl)
    refine congrArg Bv ?_
    rw [Bool.eq_iff_iff, decide_eq_true_eq, decide_eq_true_eq]; omega
  · have hp : primeS n = false := by unfold primeS; rw [decide_eq_false (by omega)]; rfl
    rw [hp]
    intro H; refine ACalls.introB s_impl_IsPrime (by simp) ?_; intro hB hA; unfold c_impl_IsPrime; simp (config := { maxSteps := 1000000 }) (disch := (first | omega | (simp only [go_sem]; try omega))) only [go_sem, Nat.reduceAdd, Nat.reduceEqDiff, Nat.reduceLeDiff, Nat.reduceMul, Nat.reduceLT, reduceIte, Int.reduceToNat, w64_id, cast_succ]
    repeat (first | (with_reducible first | refine SW.seq ?_ | refine SW.block ?_ | refine SW.rowC ?_ | refine SW.skip ?_ | refine SW.exit ?_ | refine PFn.use (FactorsOf_none n (by omega)) ?_ | refine PFn.useq (FactorsOf_none n (by omega)) ?_ | intro _ | refine And.intro (by omega) ?_) | simp (config := { maxSteps := 1000000 }) (disch := (first | omega | (simp only [go_sem]; try omega))) only [go_sem, Nat.reduceAdd, Nat.reduceEqDiff, Nat.reduceLeDiff, Nat.reduceMul, Nat.reduceLT, reduceIte, Int.reduceToNat, w64_id, cast_succ])
    refine SW.ret ?_; (try simp only [go_sem]); (first | refine FunPost.one ?_ | refine FunPost.two ?_ | refine FunPost.three ?_); (try simp (config := { maxSteps := 1000000 }) (disch := (first | omega | (simp only [go_sem]; try omega))) only [go_sem, Nat.reduceAdd, Nat.reduceEqDiff, Nat.reduceLeDiff, Nat.reduceMul, Nat.reduceLT, reduceIte, Int.reduceToNat, w64_id, cast_succ]); (first | (with_reducible refine GR.drop ?_ ?_; (simp only [go_sem, and_self, and_true, true_and, implies_true, List.take_succ_cons, List.take_zero])) | refine GR.of ?_); refine ⟨?_, rfl⟩; (try with_reducible rfl)
    rfl

def frobS (p e : Nat) (x : Nat) : List Nat := (List.range x).filter fun a => decide (1 ≤ a) && decide (pw p (e + 1) (1 % p) a e = 1)
theorem frobS_one (p e : Nat) : frobS p e 1 = [] := by simp [frobS, List.range_succ]
theorem frobS_succ (p e x : Nat) (hx : 1 ≤ x) : frobS p e (x + 1) = frobS p e x ++ (if pw p (e + 1) (1 % p) x e = 1 then [x] else []) := by
  unfold frobS
  rw [List.range_succ, List.filter_append]
  congr 1
  by_cases h : pw p (e + 1) (1 % p) x e = 1
  · simp [h, hx]
  · simp [h]
theorem frobS_len (p e x : Nat) : (frobS p e x).length ≤ x := by
  unfold frobS; exact Nat.le_trans (List.length_filter_le _ _) (by simp)
theorem frobS_lt {p e x a : Nat} (h : a ∈ frobS p e x) : a < x := by
  unfold frobS at h
  have := (List.mem_filter.1 h).1
  simpa using this
theorem frobS_nodup (p e x : Nat) : (frobS p e x).Nodup := List.nodup_range.filter _

def frobCode (p e : Int) : Int := if p > 32 ∨ primeS p = false ∨ ¬ (1 ≤ e ∧ e ≤ p - 1) ∨ ¬ (p - 1).tmod e = 0 then 2 else if p * e > 720 then 4 else 0

theorem specFrob_ok (H : List Blk) (p e : Nat) (h1 : 2 ≤ p) (h2 : p ≤ 32) (h3 : primeS p = true) (h4 : 1 ≤ e) (h5 : e ≤ p - 1) (h6 : (p - 1) % e = 0) (h7 : p * e ≤ 720) :
    ACalls Try.prog f_spec_FrobeniusGroup [I p, I e] H (fun r H' => r = .tup [.agg [I p, ilSS (sortU cmpL (affAll p (frobS p e p)))], I 0] ∧ H' = H) := by
  refine ACalls.introB s_spec_FrobeniusGroup (by simp) ?_; intro hB hA; unfold c_spec_FrobeniusGroup; simp (config := { maxSteps := 1000000 }) (disch := (first | omega | (simp only [go_sem]; try omega))) only [go_sem, Nat.reduceAdd, Nat.reduceEqDiff, Nat.reduceLeDiff, Nat.reduceMul, Nat.reduceLT, reduceIte, Int.reduceToNat, w64_id, cast_succ]
  have d1 : decide ((32 : Int) < (p : Int)) = false := decide_eq_false (by omega)
  have d3 : (decide ((1 : Int) ≤ (e : Int)) && decide ((e : Int) ≤ ((p - 1 : Nat) : Int))) = true := by simp; omega
  have d5 : decide (((0 : Nat) : Int) = 0) = true := rfl
  have e1 : ((p : Int) - 1) = ((p - 1 : Nat) : Int) := by omega
  have e2 : ((p : Int) * (e : Int)) = ((p * e : Nat) : Int) := by simp
  have d6 : decide ((720 : Int) < ((p * e : Nat) : Int)) = false := decide_eq_false (by omega)
  have hz : ¬ (e : Int) = 0 := by omega
  repeat (first | (with_reducible first | refine SW.seq ?_ | refine SW.block ?_ | refine SW.rowC ?_ | refine SW.skip ?_ | refine SW.exit ?_ | refine PFn.use (specIsPrime_fn _) ?_ | refine PFn.useq (specIsPrime_fn _) ?_ | refine PFn.use (l00In_fn _ _ _) ?_ | refine PFn.useq (l00In_fn _ _ _) ?_ | intro _ | refine And.intro (by omega) ?_) | simp (config := { maxSteps := 1000000 }) (disch := (first | omega | (simp only [go_sem]; try omega))) only [go_sem, Nat.reduceAdd, Nat.reduceEqDiff, Nat.reduceLeDiff, Nat.reduceMul, Nat.reduceLT, reduceIte, Int.reduceToNat, w64_id, cast_succ, h3, d1, d3, e1, e2, d6, d5, tmodN, h6])
  refine SW.condF rfl ?_
  repeat (first | (with_reducible first | refine SW.seq ?_ | refine SW.block ?_ | refine SW.rowC ?_ | refine SW.skip ?_ | refine SW.exit ?_ | intro _ | refine And.intro (by omega) ?_) | simp (config := { maxSteps := 1000000 }) (disch := (first | omega | (simp only [go_sem]; try omega))) only [go_sem, Nat.reduceAdd, Nat.reduceEqDiff, Nat.reduceLeDiff, Nat.reduceMul, Nat.reduceLT, reduceIte, Int.reduceToNat, w64_id, cast_succ, e2, d6])
  refine SW.condF rfl ?_
  repeat (first | (with_reducible first | refine SW.seq ?_ | refine SW.block ?_ | refine SW.rowC ?_ | refine SW.skip ?_ | refine SW.exit ?_ | intro _ | refine And.intro (by omega) ?_) | simp (config := { maxSteps := 1000000 }) (disch := (first | omega | (simp only [go_sem]; try omega))) only [go_sem, Nat.reduceAdd, Nat.reduceEqDiff, Nat.reduceLeDiff, Nat.reduceMul, Nat.reduceLT, reduceIte, Int.reduceToNat, w64_id, cast_succ])
  have hfl := fun x => frobS_len p e x
  refine SW.loopE (fun E0 H0 q E' H' => ∃ (a ver : Nat), 1 ≤ a ∧ a ≤ p ∧ q = p - a ∧ E' = aput (aput E0 7 (I a)) 6 (.nm (H.length + 1) ver 0 (nats (frobS p e a)).length) ∧ H' = H ++ [⟨0, tyG, 1, [I 0, nilS]⟩, ⟨ver, 2, 1, (nats (frobS p e a)).map I⟩]) (p - 1) ⟨1, 0, by omega, by omega, by omega, by rw [frobS_one]; rfl, by rw [frobS_one]; rfl⟩ ?_
  rintro q E' H' ⟨a, ver, ha1, hap, rfl, rfl, rfl⟩
  have hnl := nats_len (frobS p e a)
  have hfa := hfl a
  have hfs := frobS_succ p e a ha1
  generalize hL : nats (frobS p e a) = L at *
  have htl : (L.map I).take L.length = L.map I := List.take_of_length_le (by simp)
  simp (config := { maxSteps := 1000000 }) (disch := (first | omega | (simp only [go_sem]; try omega))) only [go_sem, Nat.reduceAdd, Nat.reduceEqDiff, Nat.reduceLeDiff, Nat.reduceMul, Nat.reduceLT, reduceIte, Int.reduceToNat, w64_id, cast_succ]
  repeat (first | (with_reducible first | refine SW.seq ?_ | refine SW.block ?_ | refine SW.rowC ?_ | refine SW.skip ?_ | refine SW.exit ?_ | intro _ | refine And.intro (by omega) ?_) | simp (config := { maxSteps := 1000000 }) (disch := (first | omega | (simp only [go_sem]; try omega))) only [go_sem, Nat.reduceAdd, Nat.reduceEqDiff, Nat.reduceLeDiff, Nat.reduceMul, Nat.reduceLT, reduceIte, Int.reduceToNat, w64_id, cast_succ])
  (first | refine SW.condD rfl (fun h8 => ?_) (fun h8 => ?_) | refine SW.condN rfl (fun h8 => ?_) (fun h8 => ?_) | refine SW.condNB rfl (fun h8 => ?_) (fun h8 => ?_) | refine SW.condB rfl (fun h8 => ?_) (fun h8 => ?_))
  · have hpw := specPower_fn a e p (by omega) h2 (by omega) (by omega)
    by_cases hw : pw p (e + 1) (1 % p) a e = 1
    · rw [if_pos hw] at hfs
      rw [hw] at hpw
      have hL2 : nats (frobS p e (a + 1)) = L ++ [(a : Int)] := by rw [hfs]; simp [nats] at hL ⊢; exact hL
      have d9 : decide (((1 : Nat) : Int) = 1) = true := rfl
      repeat (first | (with_reducible first | refine SW.seq ?_ | refine SW.block ?_ | refine SW.rowC ?_ | refine SW.skip ?_ | refine SW.exit ?_ | refine PFn.use (hpw) ?_ | refine PFn.useq (hpw) ?_ | intro _ | refine And.intro (by omega) ?_) | simp (config := { maxSteps := 1000000 }) (disch := (first | omega | (simp only [go_sem]; try omega))) only [go_sem, Nat.reduceAdd, Nat.reduceEqDiff, Nat.reduceLeDiff, Nat.reduceMul, Nat.reduceLT, reduceIte, Int.reduceToNat, w64_id, cast_succ, d9])
      refine SW.condT rfl ?_
      repeat (first | (with_reducible first | refine SW.seq ?_ | refine SW.block ?_ | refine SW.rowC ?_ | refine SW.skip ?_ | refine SW.exit ?_ | intro _ | refine And.intro (by omega) ?_) | simp (config := { maxSteps := 1000000 }) (disch := (first | omega | (simp only [go_sem]; try omega))) only [go_sem, Nat.reduceAdd, Nat.reduceEqDiff, Nat.reduceLeDiff, Nat.reduceMul, Nat.reduceLT, reduceIte, Int.reduceToNat, w64_id, cast_succ, htl])
      refine SLoop.nextT 2 (p - (a + 1)) hB (by omega) (by omega) (by simp) ?_ ?_ ⟨a + 1, ver + 1, by omega, by omega, rfl, ?_, ?_⟩
      · (simp only [go_sem, Nat.reduceAdd, Nat.reduceEqDiff, reduceIte, go_sem, and_self, and_true, true_and, implies_true, List.take_succ_cons, List.take_zero, and_true, true_and]; try omega)
      · (simp only [go_sem, Nat.reduceAdd, Nat.reduceEqDiff, reduceIte, go_sem, and_self, and_true, true_and, implies_true, List.take_succ_cons, List.take_zero, and_true, true_and]; try omega)
      · rw [hL2]; simp [go_sem]
      · rw [hL2]; simp
    · rw [if_neg hw, List.append_nil] at hfs
      have d9 : decide (((pw p (e + 1) (1 % p) a e : Nat) : Int) = 1) = false := decide_eq_false (by omega)
      repeat (first | (with_reducible first | refine SW.seq ?_ | refine SW.block ?_ | refine SW.rowC ?_ | refine SW.skip ?_ | refine SW.exit ?_ | refine PFn.use (hpw) ?_ | refine PFn.useq (hpw) ?_ | intro _ | refine And.intro (by omega) ?_) | simp (config := { maxSteps := 1000000 }) (disch := (first | omega | (simp only [go_sem]; try omega))) only [go_sem, Nat.reduceAdd, Nat.reduceEqDiff, Nat.reduceLeDiff, Nat.reduceMul, Nat.reduceLT, reduceIte, Int.reduceToNat, w64_id, cast_succ, d9])
      refine SW.condF rfl ?_
      repeat (first | (with_reducible first | refine SW.seq ?_ | refine SW.block ?_ | refine SW.rowC ?_ | refine SW.skip ?_ | refine SW.exit ?_ | intro _ | refine And.intro (by omega) ?_) | simp (config := { maxSteps := 1000000 }) (disch := (first | omega | (simp only [go_sem]; try omega))) only [go_sem, Nat.reduceAdd, Nat.reduceEqDiff, Nat.reduceLeDiff, Nat.reduceMul, Nat.reduceLT, reduceIte, Int.reduceToNat, w64_id, cast_succ])
      refine SLoop.next (p - (a + 1)) (by omega) ⟨a + 1, ver, by omega, by omega, rfl, ?_, ?_⟩
      · rw [hfs, hL]; simp [go_sem]
      · rw [hfs, hL]
  · have : a = p := by omega
    subst this
    have hlt : ∀ x ∈ frobS a e a, x ≤ 32 := fun x hx => by have := frobS_lt hx; omega
    have hnd : (affAll a (frobS a e a)).Nodup := affAll_nodup h1 (fun x hx => frobS_lt hx) (frobS_nodup _ _ _)
    repeat (first | (with_reducible first | refine SW.seq ?_ | refine SW.block ?_ | refine SW.rowC ?_ | refine SW.skip ?_ | refine SW.exit ?_ | intro _ | refine And.intro (by omega) ?_) | simp (config := { maxSteps := 1000000 }) (disch := (first | omega | (simp only [go_sem]; try omega))) only [go_sem, Nat.reduceAdd, Nat.reduceEqDiff, Nat.reduceLeDiff, Nat.reduceMul, Nat.reduceLT, reduceIte, Int.reduceToNat, w64_id, cast_succ])
    refine ACalls.fn (l25Affine_ok _ a (frobS a e a) (.nm (H.length + 1) ver 0 L.length) (by omega) h2 hlt (by omega) ?_) ?_
    · rw [hL]; exact view_nm (show (H ++ _)[H.length + 1]? = some ⟨ver, 2, 1, L.map I⟩ by simp) (by simp)
    repeat (first | (with_reducible first | refine SW.seq ?_ | refine SW.block ?_ | refine SW.rowC ?_ | refine SW.skip ?_ | refine SW.exit ?_ | intro _ | refine And.intro (by omega) ?_) | simp (config := { maxSteps := 1000000 }) (disch := (first | omega | (simp only [go_sem]; try omega))) only [go_sem, Nat.reduceAdd, Nat.reduceEqDiff, Nat.reduceLeDiff, Nat.reduceMul, Nat.reduceLT, reduceIte, Int.reduceToNat, w64_id, cast_succ])
    refine SW.ret ?_
    refine FunPost.cell_tmp (cs := [I a, ilSS (sortU cmpL (affAll a (frobS a e a)))]) (by simp (config := { maxSteps := 1000000 }) (disch := (first | omega | (simp only [go_sem]; try omega))) only [go_sem, Nat.reduceAdd, Nat.reduceEqDiff, Nat.reduceLeDiff, Nat.reduceMul, Nat.reduceLT, reduceIte, Int.reduceToNat, w64_id, cast_succ]) (GR.drop (ext := [_, _]) ?_ ⟨rfl, rfl⟩)
    simp [go_sem]
theorem implFrob_ok (H : List Blk) (p e : Nat) (h1 : 2 ≤ p) (h2 : p ≤ 32) (h3 : primeS p = true) (h4 : 1 ≤ e) (h5 : e ≤ p - 1) (h6 : (p - 1) % e = 0) (h7 : p * e ≤ 720) :
    ACalls Try.prog f_impl_FrobeniusGroup [I p, I e] H (fun r H' => ∃ ext v, H' = H ++ ext ∧ r = .tup [.agg [I p, v], I 0] ∧ OwnSS H' (Btw H.length H'.length) v (sortU cmpL (affAll p (frobS p e p)))) := by
  refine ACalls.introB s_impl_FrobeniusGroup (by simp) ?_; intro hB hA; unfold c_impl_FrobeniusGroup; simp (config := { maxSteps := 1000000 }) (disch := (first | omega | (simp only [go_sem]; try omega))) only [go_sem, Nat.reduceAdd, Nat.reduceEqDiff, Nat.reduceLeDiff, Nat.reduceMul, Nat.reduceLT, reduceIte, Int.reduceToNat, w64_id, cast_succ]
  have d1 : decide ((32 : Int) < (p : Int)) = false := decide_eq_false (by omega)
  have d3 : (decide ((1 : Int) ≤ (e : Int)) && decide ((e : Int) ≤ ((p - 1 : Nat) : Int))) = true := by simp; omega
  have d5 : decide (((0 : Nat) : Int) = 0) = true := rfl
  have e1 : ((p : Int) - 1) = ((p - 1 : Nat) : Int) := by omega
  have e2 : ((p : Int) * (e : Int)) = ((p * e : Nat) : Int) := by simp
  have d6 : decide ((720 : Int) < ((p * e : Nat) : Int)) = false := decide_eq_false (by omega)
  have hz : ¬ (e : Int) = 0 := by omega
  repeat (first | (with_reducible first | refine SW.seq ?_ | refine SW.block ?_ | refine SW.rowC ?_ | refine SW.skip ?_ | refine SW.exit ?_ | refine PFn.use (implIsPrime_fn _ (by omega)) ?_ | refine PFn.useq (implIsPrime_fn _ (by omega)) ?_ | refine PFn.use (within_fn _ _ _) ?_ | refine PFn.useq (within_fn _ _ _) ?_ | intro _ | refine And.intro (by omega) ?_) | simp (config := { maxSteps := 1000000 }) (disch := (first | omega | (simp only [go_sem]; try omega))) only [go_sem, Nat.reduceAdd, Nat.reduceEqDiff, Nat.reduceLeDiff, Nat.reduceMul, Nat.reduceLT, reduceIte, Int.reduceToNat, w64_id, cast_succ, h3, d1, d3, e1, e2, d6, d5, tmodN, h6])
  refine SW.condF rfl ?_
  repeat (first | (with_reducible first | refine SW.seq ?_ | refine SW.block ?_ | refine SW.rowC ?_ | refine SW.skip ?_ | refine SW.exit ?_ | intro _ | refine And.intro (by omega) ?_) | simp (config := { maxSteps := 1000000 }) (disch := (first | omega | (simp only [go_sem]; try omega))) only [go_sem, Nat.reduceAdd, Nat.reduceEqDiff, Nat.reduceLeDiff, Nat.reduceMul, Nat.reduceLT, reduceIte, Int.reduceToNat, w64_id, cast_succ, e2, d6])
  refine SW.condF rfl ?_
  repeat (first | (with_reducible first | refine SW.seq ?_ | refine SW.block ?_ | refine SW.rowC ?_ | refine SW.skip ?_ | refine SW.exit ?_ | intro _ | refine And.intro (by omega) ?_) | simp (config := { maxSteps := 1000000 }) (disch := (first | omega | (simp only [go_sem]; try omega))) only [go_sem, Nat.reduceAdd, Nat.reduceEqDiff, Nat.reduceLeDiff, Nat.reduceMul, Nat.reduceLT, reduceIte, Int.reduceToNat, w64_id, cast_succ])
  refine SW.ghost (Gh.name 6 2 1 rfl) ?_
  simp (config := { maxSteps := 1000000 }) (disch := (first | omega | (simp only [go_sem]; try omega))) only [go_sem, Nat.reduceAdd, Nat.reduceEqDiff, Nat.reduceLeDiff, Nat.reduceMul, Nat.reduceLT, reduceIte, Int.reduceToNat, w64_id, cast_succ]
  have hfl := fun x => frobS_len p e x
  refine SW.loopE (fun E0 H0 q E' H' => ∃ (a ver : Nat), 1 ≤ a ∧ a ≤ p ∧ q = p - a ∧ E' = aput (aput E0 7 (I a)) 6 (.nm (H.length + 1) ver 0 (nats (frobS p e a)).length) ∧ H' = H ++ [⟨0, tyG, 1, [I 0, nilS]⟩, ⟨ver, 2, 1, (nats (frobS p e a)).map I⟩]) (p - 1) ⟨1, 0, by omega, by omega, by omega, by rw [frobS_one]; rfl, by rw [frobS_one]; rfl⟩ ?_
  rintro q E' H' ⟨a, ver, ha1, hap, rfl, rfl, rfl⟩
  have hnl := nats_len (frobS p e a)
  have hfa := hfl a
  have hfs := frobS_succ p e a ha1
  generalize hL : nats (frobS p e a) = L at *
  have htl : (L.map I).take L.length = L.map I := List.take_of_length_le (by simp)
  simp (config := { maxSteps := 1000000 }) (disch := (first | omega | (simp only [go_sem]; try omega))) only [go_sem, Nat.reduceAdd, Nat.reduceEqDiff, Nat.reduceLeDiff, Nat.reduceMul, Nat.reduceLT, reduceIte, Int.reduceToNat, w64_id, cast_succ]
  repeat (first | (with_reducible first | refine SW.seq ?_ | refine SW.block ?_ | refine SW.rowC ?_ | refine SW.skip ?_ | refine SW.exit ?_ | intro _ | refine And.intro (by omega) ?_) | simp (config := { maxSteps := 1000000 }) (disch := (first | omega | (simp only [go_sem]; try omega))) only [go_sem, Nat.reduceAdd, Nat.reduceEqDiff, Nat.reduceLeDiff, Nat.reduceMul, Nat.reduceLT, reduceIte, Int.reduceToNat, w64_id, cast_succ])
  (first | refine SW.condD rfl (fun h8 => ?_) (fun h8 => ?_) | refine SW.condN rfl (fun h8 => ?_) (fun h8 => ?_) | refine SW.condNB rfl (fun h8 => ?_) (fun h8 => ?_) | refine SW.condB rfl (fun h8 => ?_) (fun h8 => ?_))
  · have hpw := PowerMod_fn a e p (by omega) h2 (by omega) (by omega)
    by_cases hw : pw p (e + 1) (1 % p) a e = 1
    · rw [if_pos hw] at hfs
      rw [hw] at hpw
      have hL2 : nats (frobS p e (a + 1)) = L ++ [(a : Int)] := by rw [hfs]; simp [nats] at hL ⊢; exact hL
      have d9 : decide (((1 : Nat) : Int) = 1) = true := rfl
      repeat (first | (with_reducible first | refine SW.seq ?_ | refine SW.block ?_ | refine SW.rowC ?_ | refine SW.skip ?_ | refine SW.exit ?_ | refine PFn.use (hpw) ?_ | refine PFn.useq (hpw) ?_ | intro _ | refine And.intro (by omega) ?_) | simp (config := { maxSteps := 1000000 }) (disch := (first | omega | (simp only [go_sem]; try omega))) only [go_sem, Nat.reduceAdd, Nat.reduceEqDiff, Nat.reduceLeDiff, Nat.reduceMul, Nat.reduceLT, reduceIte, Int.reduceToNat, w64_id, cast_succ, d9])
      refine SW.condT rfl ?_
      repeat (first | (with_reducible first | refine SW.seq ?_ | refine SW.block ?_ | refine SW.rowC ?_ | refine SW.skip ?_ | refine SW.exit ?_ | intro _ | refine And.intro (by omega) ?_) | simp (config := { maxSteps := 1000000 }) (disch := (first | omega | (simp only [go_sem]; try omega))) only [go_sem, Nat.reduceAdd, Nat.reduceEqDiff, Nat.reduceLeDiff, Nat.reduceMul, Nat.reduceLT, reduceIte, Int.reduceToNat, w64_id, cast_succ, htl])
      refine SLoop.nextT 2 (p - (a + 1)) hB (by omega) (by omega) (by simp) ?_ ?_ ⟨a + 1, ver + 1, by omega, by omega, rfl, ?_, ?_⟩
      · (simp only [go_sem, Nat.reduceAdd, Nat.reduceEqDiff, reduceIte, go_sem, and_self, and_true, true_and, implies_true, List.take_succ_cons, List.take_zero, and_true, true_and]; try omega)
      · (simp only [go_sem, Nat.reduceAdd, Nat.reduceEqDiff, reduceIte, go_sem, and_self, and_true, true_and, implies_true, List.take_succ_cons, List.take_zero, and_true, true_and]; try omega)
      · rw [hL2]; simp [go_sem]
      · rw [hL2]; simp
    · rw [if_neg hw, List.append_nil] at hfs
      have d9 : decide (((pw p (e + 1) (1 % p) a e : Nat) : Int) = 1) = false := decide_eq_false (by omega)
      repeat (first | (with_reducible first | refine SW.seq ?_ | refine SW.block ?_ | refine SW.rowC ?_ | refine SW.skip ?_ | refine SW.exit ?_ | refine PFn.use (hpw) ?_ | refine PFn.useq (hpw) ?_ | intro _ | refine And.intro (by omega) ?_) | simp (config := { maxSteps := 1000000 }) (disch := (first | omega | (simp only [go_sem]; try omega))) only [go_sem, Nat.reduceAdd, Nat.reduceEqDiff, Nat.reduceLeDiff, Nat.reduceMul, Nat.reduceLT, reduceIte, Int.reduceToNat, w64_id, cast_succ, d9])
      refine SW.condF rfl ?_
      repeat (first | (with_reducible first | refine SW.seq ?_ | refine SW.block ?_ | refine SW.rowC ?_ | refine SW.skip ?_ | refine SW.exit ?_ | intro _ | refine And.intro (by omega) ?_) | simp (config := { maxSteps := 1000000 }) (disch := (first | omega | (simp only [go_sem]; try omega))) only [go_sem, Nat.reduceAdd, Nat.reduceEqDiff, Nat.reduceLeDiff, Nat.reduceMul, Nat.reduceLT, reduceIte, Int.reduceToNat, w64_id, cast_succ])
      refine SLoop.next (p - (a + 1)) (by omega) ⟨a + 1, ver, by omega, by omega, rfl, ?_, ?_⟩
      · rw [hfs, hL]; simp [go_sem]
      · rw [hfs, hL]
  · have : a = p := by omega
    subst this
    have hlt : ∀ x ∈ frobS a e a, x ≤ 32 := fun x hx => by have := frobS_lt hx; omega
    have hnd : (affAll a (frobS a e a)).Nodup := affAll_nodup h1 (fun x hx => frobS_lt hx) (frobS_nodup _ _ _)
    repeat (first | (with_reducible first | refine SW.seq ?_ | refine SW.block ?_ | refine SW.rowC ?_ | refine SW.skip ?_ | refine SW.exit ?_ | intro _ | refine And.intro (by omega) ?_) | simp (config := { maxSteps := 1000000 }) (disch := (first | omega | (simp only [go_sem]; try omega))) only [go_sem, Nat.reduceAdd, Nat.reduceEqDiff, Nat.reduceLeDiff, Nat.reduceMul, Nat.reduceLT, reduceIte, Int.reduceToNat, w64_id, cast_succ])
    have e9 : (AV.nm (H.length + 1) ver 0 L.length) = .nm (H.length + 1) ver 0 (nats (frobS a e a)).length := by rw [hL]
    refine (linear_lend a (frobS a e a) (by omega) h2 hlt (by omega) hnd (.cons (froz_I' _) (.cons (by rw [hL]; exact froz_rowI (xs := L) (ver := ver) (ty := 2) (Nat.zero_le _) (by simp)) .nil))).mono ?_
    rintro r H1 ⟨ext, v, rfl, rfl, ho⟩
    repeat (first | (with_reducible first | refine SW.seq ?_ | refine SW.block ?_ | refine SW.rowC ?_ | refine SW.skip ?_ | refine SW.exit ?_ | intro _ | refine And.intro (by omega) ?_) | simp (config := { maxSteps := 1000000 }) (disch := (first | omega | (simp only [go_sem]; try omega))) only [go_sem, Nat.reduceAdd, Nat.reduceEqDiff, Nat.reduceLeDiff, Nat.reduceMul, Nat.reduceLT, reduceIte, Int.reduceToNat, w64_id, cast_succ, ho.cell1B.1, ho.cell1B.2])
    refine SW.ret ?_
    refine FunPost.cell_tmp (cs := [I a, v]) (by simp (config := { maxSteps := 1000000 }) (disch := (first | omega | (simp only [go_sem]; try omega))) only [go_sem, Nat.reduceAdd, Nat.reduceEqDiff, Nat.reduceLeDiff, Nat.reduceMul, Nat.reduceLT, reduceIte, Int.reduceToNat, w64_id, cast_succ]) (GR.of ⟨_, v, rfl, rfl, ?_⟩)
    have e5 : H ++ ((⟨0, tyG, 1, [I a, v]⟩ : Blk) :: (⟨ver, 2, 1, L.map I⟩ : Blk) :: ext) = (H ++ [(⟨0, tyG, 1, [I 0, nilS]⟩ : Blk), (⟨ver, 2, 1, L.map I⟩ : Blk)] ++ ext).set H.length ⟨0, tyG, 1, [I a, v]⟩ := by simp
    rw [e5]
    refine (ho.same (fun j b h1 h2 => ?_)).weak (fun r h1 h2 => ?_)
    · rw [List.getElem?_set_ne (by unfold Btw at h1; simp at h1; omega)]; exact h2
    · unfold Btw at h1 ⊢; simp at h1 h2 ⊢; omega
end Go.Proofs.Ytonfknfphdeenaa
