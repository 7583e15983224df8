/- MADE BY PROGRAM (wip/gen.sh, wip/Gen.lean.tpl): the abstract code of functions, tied to the program by the kernel. -/
import Derived.Test.YtmgbglekgigkmaaAv11
import Derived.Test.YtmgbglekgigkmaaProg
import Derived.KernelRfl
namespace Go.Proofs.Ytmgbglekgigkmaa
open Go.Av

/-- loop.example/g00920/laws.FnExactValidSystem -/
abbrev f_laws_FnExactValidSystem : Nat := 7
def c_laws_FnExactValidSystem : SC :=
 .seq (.reg [
     ⟨(some 4), .mv (.const (.bool false)), none⟩] [0, 1])
 (.seq (.reg [
     ⟨(some 5), .mv (.const (.int .i64 1048576)), none⟩] [0, 1, 5])
 (.seq (.reg [
     ⟨(some 9), .mv (.tmp 1), none⟩,
     ⟨(some 10), .mv (.tmp 5), none⟩,
     ⟨(some 11), .call 28 [(.tmp 9), (.tmp 10)], none⟩,
     ⟨(some 5), .mv (.tmp 11), none⟩] [0, 1, 5])
 (.seq (.seq (.reg [
     ⟨(some 12), .mv (.tmp 5), none⟩,
     ⟨(some 13), .bin .lss (.tmp 12) (.const (.int .i64 0)), none⟩] [0, 1, 13])
 (.cond (.tmp 13)
  (.seq (.reg [
      ⟨(some 4), .mv (.const (.bool true)), none⟩] [4])
  (.ret))
  (.skip)))
 (.seq (.reg [
     ⟨(some 14), .mv (.tmp 0), none⟩,
     ⟨(some 15), .mv (.tmp 1), none⟩,
     ⟨(some 16), .call 30 [(.tmp 15)], none⟩,
     ⟨(some 17), .call 29 [(.tmp 14), (.tmp 16)], none⟩,
     ⟨(some 6), .mv (.tmp 17), none⟩] [0, 1, 6])
 (.seq (.reg [
     ⟨(some 18), .mv (.tmp 1), none⟩,
     ⟨(some 19), .call 30 [(.tmp 18)], none⟩,
     ⟨(some 7), .mv (.tmp 19), none⟩] [0, 1, 6, 7])
 (.seq (.reg [
     ⟨(some 20), .mv (.tmp 0), none⟩,
     ⟨(some 21), .mv (.tmp 7), none⟩,
     ⟨(some 22), .call 31 [(.tmp 20), (.tmp 21)], none⟩,
     ⟨(some 8), .mv (.tmp 22), none⟩] [1, 6, 7, 8])
 (.seq (.seq (.reg [
     ⟨(some 23), .mv (.tmp 8), none⟩,
     ⟨(some 24), .mv (.tmp 6), none⟩,
     ⟨(some 25), .binb true (.tmp 23) (.tmp 24), none⟩] [1, 7, 25])
 (.cond (.tmp 25)
  (.seq (.reg [
      ⟨(some 4), .mv (.const (.bool false)), none⟩] [4])
  (.ret))
  (.skip)))
 (.seq (.seq (.reg [
     ⟨(some 26), .mv (.tmp 7), none⟩,
     ⟨(some 27), .mv (.tmp 1), none⟩,
     ⟨(some 28), .call 30 [(.tmp 27)], none⟩,
     ⟨(some 29), .call 32 [(.tmp 26), (.tmp 28)], none⟩,
     ⟨(some 30), .un .not (.tmp 29), none⟩] [30])
 (.cond (.tmp 30)
  (.seq (.reg [
      ⟨(some 4), .mv (.const (.bool false)), none⟩] [4])
  (.ret))
  (.skip)))
 (.seq (.reg [
     ⟨(some 4), .mv (.const (.bool true)), none⟩] [4])
 (.ret))))))))))
theorem s_laws_FnExactValidSystem : stripF Try.prog 7 [[0, 1], [0, 1, 5], [0, 1, 5], [0, 1, 13], [4], [0, 1, 6], [0, 1, 6, 7], [1, 6, 7, 8], [1, 7, 25], [4], [30], [4], [4]] = some (c_laws_FnExactValidSystem, [.tmp 4], 31) := by kernel_rfl

/-- loop.example/g00920/laws.FnExactIsOrbitChoice -/
abbrev f_laws_FnExactIsOrbitChoice : Nat := 8
def c_laws_FnExactIsOrbitChoice : SC :=
 .seq (.reg [
     ⟨(some 6), .mv (.const (.bool false)), none⟩] [0, 1, 2])
 (.seq (.seq (.reg [
     ⟨(some 14), .mv (.tmp 2), none⟩,
     ⟨(some 15), .len (.tmp 14), none⟩,
     ⟨(some 16), .bin .gtr (.tmp 15) (.const (.int .i64 1048576)), none⟩] [0, 1, 2, 16])
 (.cond (.tmp 16)
  (.seq (.reg [
      ⟨(some 6), .mv (.const (.bool true)), none⟩] [6])
  (.ret))
  (.skip)))
 (.seq (.reg [
     ⟨(some 7), .mv (.const (.int .i64 1048576)), none⟩] [0, 1, 2, 7])
 (.seq (.reg [
     ⟨(some 17), .mv (.tmp 0), none⟩,
     ⟨(some 18), .mv (.tmp 7), none⟩,
     ⟨(some 19), .call 28 [(.tmp 17), (.tmp 18)], none⟩,
     ⟨(some 7), .mv (.tmp 19), none⟩] [0, 1, 2, 7])
 (.seq (.seq (.reg [
     ⟨(some 20), .mv (.tmp 7), none⟩,
     ⟨(some 21), .bin .lss (.tmp 20) (.const (.int .i64 0)), none⟩] [0, 1, 2, 21])
 (.cond (.tmp 21)
  (.seq (.reg [
      ⟨(some 6), .mv (.const (.bool true)), none⟩] [6])
  (.ret))
  (.skip)))
 (.seq (.reg [
     ⟨(some 23), .mv (.tmp 0), none⟩,
     ⟨(some 24), .call 30 [(.tmp 23)], none⟩,
     ⟨(some 25), .mv (.tmp 1), none⟩,
     ⟨(some 26), .mv (.tmp 2), none⟩,
     ⟨(some 27), .call 34 [(.tmp 26)], none⟩,
     ⟨(some 28), .call 33 [(.tmp 24), (.tmp 25), (.tmp 27)], none⟩,
     ⟨(some 22), .mv (.tmp 28), none⟩,
     ⟨(some 29), .ext (.tmp 22) 0, none⟩,
     ⟨(some 30), .ext (.tmp 22) 1, none⟩,
     ⟨(some 8), .mv (.tmp 29), none⟩,
     ⟨(some 9), .mv (.tmp 30), none⟩] [0, 1, 2, 8, 9])
 (.seq (.reg [
     ⟨(some 31), .mv (.tmp 0), none⟩,
     ⟨(some 32), .call 30 [(.tmp 31)], none⟩,
     ⟨(some 10), .mv (.tmp 32), none⟩] [0, 1, 2, 8, 9, 10])
 (.seq (.reg [
     ⟨(some 33), .mv (.tmp 2), none⟩,
     ⟨(some 34), .call 34 [(.tmp 33)], none⟩,
     ⟨(some 11), .mv (.tmp 34), none⟩] [0, 1, 2, 8, 9, 10, 11])
 (.seq (.reg [
     ⟨(some 36), .mv (.tmp 10), none⟩,
     ⟨(some 37), .mv (.tmp 1), none⟩,
     ⟨(some 38), .mv (.tmp 11), none⟩,
     ⟨(some 39), .call 35 [(.tmp 36), (.tmp 37), (.tmp 38)], none⟩,
     ⟨(some 35), .mv (.tmp 39), none⟩,
     ⟨(some 40), .ext (.tmp 35) 0, none⟩,
     ⟨(some 41), .ext (.tmp 35) 1, none⟩,
     ⟨(some 12), .mv (.tmp 40), none⟩,
     ⟨(some 13), .mv (.tmp 41), none⟩] [0, 2, 8, 9, 10, 11, 12, 13])
 (.seq (.seq (.reg [
     ⟨(some 42), .mv (.tmp 12), none⟩,
     ⟨(some 43), .mv (.tmp 8), none⟩,
     ⟨(some 44), .binb true (.tmp 42) (.tmp 43), none⟩,
     ⟨(some 45), .mv (.tmp 44), none⟩,
     ⟨(some 46), .mv (.tmp 13), (some (45, false))⟩,
     ⟨(some 47), .mv (.tmp 9), (some (45, false))⟩,
     ⟨(some 48), .bin .neq (.tmp 46) (.tmp 47), (some (45, false))⟩,
     ⟨(some 49), .pick (.tmp 45) (.const (.bool true)) (.tmp 48), none⟩] [0, 2, 10, 11, 49])
 (.cond (.tmp 49)
  (.seq (.reg [
      ⟨(some 6), .mv (.const (.bool false)), none⟩] [6])
  (.ret))
  (.skip)))
 (.seq (.seq (.reg [
     ⟨(some 50), .mv (.tmp 10), none⟩,
     ⟨(some 51), .mv (.tmp 0), none⟩,
     ⟨(some 52), .call 30 [(.tmp 51)], none⟩,
     ⟨(some 53), .call 32 [(.tmp 50), (.tmp 52)], none⟩,
     ⟨(some 54), .un .not (.tmp 53), none⟩] [2, 11, 54])
 (.cond (.tmp 54)
  (.seq (.reg [
      ⟨(some 6), .mv (.const (.bool false)), none⟩] [6])
  (.ret))
  (.skip)))
 (.seq (.seq (.reg [
     ⟨(some 55), .mv (.tmp 11), none⟩,
     ⟨(some 56), .mv (.tmp 2), none⟩,
     ⟨(some 57), .call 34 [(.tmp 56)], none⟩,
     ⟨(some 58), .call 36 [(.tmp 55), (.tmp 57)], none⟩,
     ⟨(some 59), .un .not (.tmp 58), none⟩] [59])
 (.cond (.tmp 59)
  (.seq (.reg [
      ⟨(some 6), .mv (.const (.bool false)), none⟩] [6])
  (.ret))
  (.skip)))
 (.seq (.reg [
     ⟨(some 6), .mv (.const (.bool true)), none⟩] [6])
 (.ret)))))))))))))
theorem s_laws_FnExactIsOrbitChoice : stripF Try.prog 8 [[0, 1, 2], [0, 1, 2, 16], [6], [0, 1, 2, 7], [0, 1, 2, 7], [0, 1, 2, 21], [6], [0, 1, 2, 8, 9], [0, 1, 2, 8, 9, 10], [0, 1, 2, 8, 9, 10, 11], [0, 2, 8, 9, 10, 11, 12, 13], [0, 2, 10, 11, 49], [6], [2, 11, 54], [6], [59], [6], [6]] = some (c_laws_FnExactIsOrbitChoice, [.tmp 6], 60) := by kernel_rfl

/-- loop.example/g00920/spec.ValidSystem -/
abbrev f_spec_ValidSystem : Nat := 29
def c_spec_ValidSystem : SC :=
 .seq (.reg [
     ⟨(some 4), .mv (.const (.bool false)), none⟩] [0, 1])
 (.seq (.reg [
     ⟨(some 5), .mv (.tmp 0), none⟩,
     ⟨(some 6), .mv (.tmp 1), none⟩,
     ⟨(some 7), .call 75 [(.tmp 5), (.tmp 6)], none⟩,
     ⟨(some 4), .mv (.tmp 7), none⟩] [4])
 (.ret))
theorem s_spec_ValidSystem : stripF Try.prog 29 [[0, 1], [4]] = some (c_spec_ValidSystem, [.tmp 4], 8) := by kernel_rfl

/-- loop.example/g00920/impl.ValidSystem -/
abbrev f_impl_ValidSystem : Nat := 31
def c_impl_ValidSystem : SC :=
 .seq (.reg [
     ⟨(some 4), .mv (.const (.bool false)), none⟩] [0, 1])
 (.seq (.seq (.reg [
     ⟨(some 7), .mv (.tmp 0), none⟩,
     ⟨(some 8), .call 59 [(.tmp 7), (.const (.int .i64 1)), (.const (.int .i64 6))], none⟩,
     ⟨(some 9), .un .not (.tmp 8), none⟩] [0, 1, 9])
 (.cond (.tmp 9)
  (.seq (.reg [
      ⟨(some 4), .mv (.const (.bool false)), none⟩] [4])
  (.ret))
  (.skip)))
 (.seq (.seq (.reg [
     ⟨(some 10), .mv (.tmp 1), none⟩,
     ⟨(some 11), .len (.tmp 10), none⟩,
     ⟨(some 12), .mv (.const (.int .i64 0)), none⟩] [0, 1, 10, 11, 12])
 (.block 0 (.loop [0, 1, 10, 11, 12]
   (.seq (.reg [
       ⟨(some 13), .bin .lss (.tmp 12) (.tmp 11), none⟩] [0, 1, 10, 11, 12, 13])
   (.seq (.cond (.tmp 13)
    (.skip)
    (.exit 0))
   (.seq (.block 1 (.seq (.reg [
        ⟨(some 14), .mv (.tmp 12), none⟩,
        ⟨(some 15), .iaddr 1 (.tmp 10) (.tmp 12), none⟩,
        ⟨(some 16), .load 1 false (.tmp 15), none⟩,
        ⟨(some 5), .mv (.tmp 14), none⟩,
        ⟨(some 6), .mv (.tmp 16), none⟩] [0, 1, 5, 6, 10, 11, 12])
    (.seq (.reg [
        ⟨(some 17), .mv (.tmp 6), none⟩,
        ⟨(some 18), .mv (.tmp 0), none⟩,
        ⟨(some 19), .call 76 [(.tmp 17), (.tmp 18)], none⟩,
        ⟨(some 20), .un .not (.tmp 19), none⟩,
        ⟨(some 21), .mv (.tmp 20), none⟩,
        ⟨(some 22), .mv (.tmp 5), (some (21, false))⟩,
        ⟨(some 23), .bin .gtr (.tmp 22) (.const (.int .i64 0)), (some (21, false))⟩,
        ⟨(some 24), .mv (.tmp 23), (some (21, false))⟩,
        ⟨(some 25), .mv (.tmp 1), (some (24, true))⟩,
        ⟨(some 26), .mv (.tmp 5), (some (24, true))⟩,
        ⟨(some 27), .bin .sub (.tmp 26) (.const (.int .i64 1)), (some (24, true))⟩,
        ⟨(some 28), .iaddr 1 (.tmp 25) (.tmp 27), (some (24, true))⟩,
        ⟨(some 29), .load 1 false (.tmp 28), (some (24, true))⟩,
        ⟨(some 30), .mv (.tmp 6), (some (24, true))⟩,
        ⟨(some 31), .call 77 [(.tmp 29), (.tmp 30)], (some (24, true))⟩,
        ⟨(some 32), .bin .geq (.tmp 31) (.const (.int .i64 0)), (some (24, true))⟩,
        ⟨(some 33), .pick (.tmp 24) (.tmp 32) (.const (.bool false)), (some (21, false))⟩,
        ⟨(some 34), .pick (.tmp 21) (.const (.bool true)) (.tmp 33), none⟩] [0, 1, 10, 11, 12, 34])
    (.cond (.tmp 34)
     (.seq (.reg [
         ⟨(some 4), .mv (.const (.bool false)), none⟩] [4])
     (.ret))
     (.skip)))))
   (.reg [
       ⟨(some 35), .bin .add (.tmp 12) (.const (.int .i64 1)), none⟩,
       ⟨(some 12), .mv (.tmp 35), none⟩] [0, 1, 10, 11, 12])))))))
 (.seq (.reg [
     ⟨(some 4), .mv (.const (.bool true)), none⟩] [4])
 (.ret))))
theorem s_impl_ValidSystem : stripF Try.prog 31 [[0, 1], [0, 1, 9], [4], [0, 1, 10, 11, 12], [0, 1, 10, 11, 12], [0, 1, 10, 11, 12, 13], [0, 1, 5, 6, 10, 11, 12], [0, 1, 10, 11, 12, 34], [4], [0, 1, 10, 11, 12], [4]] = some (c_impl_ValidSystem, [.tmp 4], 36) := by kernel_rfl

/-- loop.example/g00920/spec.IsOrbitChoice -/
abbrev f_spec_IsOrbitChoice : Nat := 33
def c_spec_IsOrbitChoice : SC :=
 .seq (.reg [
     ⟨(some 6), .mv (.const (.bool false)), none⟩,
     ⟨(some 7), .mv (.const (.int .i64 0)), none⟩] [0, 1, 2])
 (.seq (.seq (.reg [
     ⟨(some 8), .mv (.tmp 0), none⟩,
     ⟨(some 9), .call 78 [(.tmp 8)], none⟩,
     ⟨(some 10), .un .not (.tmp 9), none⟩] [0, 1, 2, 10])
 (.cond (.tmp 10)
  (.seq (.reg [
      ⟨(some 6), .mv (.const (.bool false)), none⟩,
      ⟨(some 7), .mv (.const (.int .i64 1)), none⟩] [6, 7])
  (.ret))
  (.skip)))
 (.seq (.seq (.reg [
     ⟨(some 11), .mv (.tmp 1), none⟩,
     ⟨(some 12), .call 79 [(.tmp 11)], none⟩,
     ⟨(some 13), .un .not (.tmp 12), none⟩] [0, 1, 2, 13])
 (.cond (.tmp 13)
  (.seq (.reg [
      ⟨(some 6), .mv (.const (.bool false)), none⟩,
      ⟨(some 7), .mv (.const (.int .i64 2)), none⟩] [6, 7])
  (.ret))
  (.skip)))
 (.seq (.reg [
     ⟨(some 14), .mv (.tmp 0), none⟩,
     ⟨(some 15), .mv (.tmp 1), none⟩,
     ⟨(some 16), .mv (.tmp 2), none⟩,
     ⟨(some 17), .call 80 [(.tmp 14), (.tmp 15), (.tmp 16)], none⟩,
     ⟨(some 6), .mv (.tmp 17), none⟩,
     ⟨(some 7), .mv (.const (.int .i64 0)), none⟩] [6, 7])
 (.ret))))
theorem s_spec_IsOrbitChoice : stripF Try.prog 33 [[0, 1, 2], [0, 1, 2, 10], [6, 7], [0, 1, 2, 13], [6, 7], [6, 7]] = some (c_spec_IsOrbitChoice, [.tmp 6, .tmp 7], 18) := by kernel_rfl

/-- loop.example/g00920/impl.IsOrbitChoice -/
abbrev f_impl_IsOrbitChoice : Nat := 35
def c_impl_IsOrbitChoice : SC :=
 .seq (.reg [
     ⟨(some 4), .box 2 (.tmp 1), none⟩,
     ⟨(some 5), .box 42 (.tmp 2), none⟩,
     ⟨(some 6), .mv (.const (.bool false)), none⟩,
     ⟨(some 7), .mv (.const (.int .i64 0)), none⟩] [0, 4, 5])
 (.seq (.seq (.reg [
     ⟨(some 8), .mv (.tmp 0), none⟩,
     ⟨(some 9), .call 81 [(.tmp 8)], none⟩,
     ⟨(some 10), .un .not (.tmp 9), none⟩] [0, 4, 5, 10])
 (.cond (.tmp 10)
  (.seq (.reg [
      ⟨(some 6), .mv (.const (.bool false)), none⟩,
      ⟨(some 7), .mv (.const (.int .i64 1)), none⟩] [6, 7])
  (.ret))
  (.skip)))
 (.seq (.seq (.reg [
     ⟨(some 11), .load 1 false (.tmp 4), none⟩,
     ⟨(some 12), .call 82 [(.tmp 11)], none⟩,
     ⟨(some 13), .un .not (.tmp 12), none⟩] [0, 4, 5, 13])
 (.cond (.tmp 13)
  (.seq (.reg [
      ⟨(some 6), .mv (.const (.bool false)), none⟩,
      ⟨(some 7), .mv (.const (.int .i64 2)), none⟩] [6, 7])
  (.ret))
  (.skip)))
 (.seq (.seq (.reg [
     ⟨(some 14), .load 1 false (.tmp 5), none⟩,
     ⟨(some 15), .mv (.tmp 0), none⟩,
     ⟨(some 16), .iaddr 1 (.tmp 15) (.const (.int .i64 0)), none⟩,
     ⟨(some 17), .load 1 false (.tmp 16), none⟩,
     ⟨(some 18), .qcall 83 [(.tmp 17)], none⟩,
     ⟨(some 19), .qcall 67 [(.tmp 14), (.tmp 18)], none⟩,
     ⟨(some 20), .un .not (.tmp 19), none⟩] [0, 4, 5, 20])
 (.cond (.tmp 20)
  (.seq (.reg [
      ⟨(some 6), .mv (.const (.bool false)), none⟩,
      ⟨(some 7), .mv (.const (.int .i64 0)), none⟩] [6, 7])
  (.ret))
  (.skip)))
 (.seq (.reg [
     ⟨(some 21), .mv (.tmp 0), none⟩,
     ⟨(some 22), .mkf 84 [(.tmp 5), (.tmp 4)], none⟩,
     ⟨(some 23), .call 65 [(.tmp 21), (.tmp 22)], none⟩,
     ⟨(some 24), .un .not (.tmp 23), none⟩,
     ⟨(some 6), .mv (.tmp 24), none⟩,
     ⟨(some 7), .mv (.const (.int .i64 0)), none⟩] [6, 7])
 (.ret)))))
theorem s_impl_IsOrbitChoice : stripF Try.prog 35 [[0, 4, 5], [0, 4, 5, 10], [6, 7], [0, 4, 5, 13], [6, 7], [0, 4, 5, 20], [6, 7], [6, 7]] = some (c_impl_IsOrbitChoice, [.tmp 6, .tmp 7], 25) := by kernel_rfl

/-- loop.example/g00920/spec.l27Ok -/
abbrev f_spec_l27Ok : Nat := 75
def c_spec_l27Ok : SC :=
 .seq (.reg [
     ⟨(some 4), .mv (.const (.bool false)), none⟩] [0, 1])
 (.seq (.seq (.reg [
     ⟨(some 6), .mv (.tmp 0), none⟩,
     ⟨(some 7), .call 57 [(.tmp 6), (.const (.int .i64 1)), (.const (.int .i64 6))], none⟩,
     ⟨(some 8), .un .not (.tmp 7), none⟩] [0, 1, 8])
 (.cond (.tmp 8)
  (.seq (.reg [
      ⟨(some 4), .mv (.const (.bool false)), none⟩] [4])
  (.ret))
  (.skip)))
 (.seq (.seq (.reg [
     ⟨(some 5), .mv (.const (.int .i64 0)), none⟩] [0, 1, 5])
 (.block 0 (.loop [0, 1, 5]
   (.seq (.seq (.reg [
       ⟨(some 9), .mv (.tmp 5), none⟩,
       ⟨(some 10), .mv (.tmp 1), none⟩,
       ⟨(some 11), .len (.tmp 10), none⟩,
       ⟨(some 12), .bin .lss (.tmp 9) (.tmp 11), none⟩] [0, 1, 5, 12])
   (.cond (.tmp 12)
    (.skip)
    (.exit 0)))
   (.seq (.block 1 (.seq (.reg [
        ⟨(some 15), .mv (.tmp 1), none⟩,
        ⟨(some 16), .mv (.tmp 5), none⟩,
        ⟨(some 17), .iaddr 1 (.tmp 15) (.tmp 16), none⟩,
        ⟨(some 18), .load 1 false (.tmp 17), none⟩,
        ⟨(some 19), .qlen (.tmp 18), none⟩,
        ⟨(some 20), .bin .eql (.tmp 19) (.const (.int .i64 0)), none⟩,
        ⟨(some 21), .mv (.tmp 20), none⟩,
        ⟨(some 22), .mv (.tmp 1), (some (21, false))⟩,
        ⟨(some 23), .mv (.tmp 5), (some (21, false))⟩,
        ⟨(some 24), .iaddr 1 (.tmp 22) (.tmp 23), (some (21, false))⟩,
        ⟨(some 25), .load 1 false (.tmp 24), (some (21, false))⟩,
        ⟨(some 26), .mv (.tmp 0), (some (21, false))⟩,
        ⟨(some 27), .bin .sub (.tmp 26) (.const (.int .i64 1)), (some (21, false))⟩,
        ⟨(some 28), .qcall 100 [(.tmp 25), (.const (.int .i64 0)), (.tmp 27)], (some (21, false))⟩,
        ⟨(some 29), .un .not (.tmp 28), (some (21, false))⟩,
        ⟨(some 30), .pick (.tmp 21) (.const (.bool true)) (.tmp 29), none⟩,
        ⟨(some 31), .mv (.tmp 30), none⟩,
        ⟨(some 32), .mv (.tmp 5), (some (31, false))⟩,
        ⟨(some 33), .bin .gtr (.tmp 32) (.const (.int .i64 0)), (some (31, false))⟩,
        ⟨(some 34), .mv (.tmp 33), (some (31, false))⟩,
        ⟨(some 35), .mv (.tmp 1), (some (34, true))⟩,
        ⟨(some 36), .mv (.tmp 5), (some (34, true))⟩,
        ⟨(some 37), .bin .sub (.tmp 36) (.const (.int .i64 1)), (some (34, true))⟩,
        ⟨(some 38), .iaddr 1 (.tmp 35) (.tmp 37), (some (34, true))⟩,
        ⟨(some 39), .load 1 false (.tmp 38), (some (34, true))⟩,
        ⟨(some 40), .mv (.tmp 1), (some (34, true))⟩,
        ⟨(some 41), .mv (.tmp 5), (some (34, true))⟩,
        ⟨(some 42), .iaddr 1 (.tmp 40) (.tmp 41), (some (34, true))⟩,
        ⟨(some 43), .load 1 false (.tmp 42), (some (34, true))⟩,
        ⟨(some 44), .qcall 120 [(.tmp 39), (.tmp 43)], (some (34, true))⟩,
        ⟨(some 45), .bin .geq (.tmp 44) (.const (.int .i64 0)), (some (34, true))⟩,
        ⟨(some 46), .pick (.tmp 34) (.tmp 45) (.const (.bool false)), (some (31, false))⟩,
        ⟨(some 47), .pick (.tmp 31) (.const (.bool true)) (.tmp 46), none⟩] [0, 1, 5, 47])
    (.cond (.tmp 47)
     (.seq (.reg [
         ⟨(some 4), .mv (.const (.bool false)), none⟩] [4])
     (.ret))
     (.skip))))
   (.reg [
       ⟨(some 13), .mv (.tmp 5), none⟩,
       ⟨(some 14), .bin .add (.tmp 13) (.const (.int .i64 1)), none⟩,
       ⟨(some 5), .mv (.tmp 14), none⟩] [0, 1, 5]))))))
 (.seq (.reg [
     ⟨(some 4), .mv (.const (.bool true)), none⟩] [4])
 (.ret))))
theorem s_spec_l27Ok : stripF Try.prog 75 [[0, 1], [0, 1, 8], [4], [0, 1, 5], [0, 1, 5], [0, 1, 5, 12], [0, 1, 5, 47], [4], [0, 1, 5], [4]] = some (c_spec_l27Ok, [.tmp 4], 48) := by kernel_rfl

/-- loop.example/g00920/impl.isBlock -/
abbrev f_impl_isBlock : Nat := 76
def c_impl_isBlock : SC :=
 .seq (.reg [
     ⟨(some 4), .mv (.const (.bool false)), none⟩] [0, 1])
 (.seq (.reg [
     ⟨(some 5), .mv (.tmp 0), none⟩,
     ⟨(some 6), .len (.tmp 5), none⟩,
     ⟨(some 7), .bin .gtr (.tmp 6) (.const (.int .i64 0)), none⟩,
     ⟨(some 8), .mv (.tmp 7), none⟩,
     ⟨(some 9), .mv (.tmp 0), (some (8, true))⟩,
     ⟨(some 10), .mv (.tmp 1), (some (8, true))⟩,
     ⟨(some 11), .call 121 [(.tmp 9), (.tmp 10)], (some (8, true))⟩,
     ⟨(some 12), .pick (.tmp 8) (.tmp 11) (.const (.bool false)), none⟩,
     ⟨(some 4), .mv (.tmp 12), none⟩] [4])
 (.ret))
theorem s_impl_isBlock : stripF Try.prog 76 [[0, 1], [4]] = some (c_impl_isBlock, [.tmp 4], 13) := by kernel_rfl

/-- slices.Compare[[]int64,int64] -/
abbrev f_slices_Compare_Lint64_int64 : Nat := 77
def c_slices_Compare_Lint64_int64 : SC :=
 .seq (.reg [
     ⟨(some 4), .mv (.const (.int .i64 0)), none⟩] [0, 1])
 (.seq (.seq (.reg [
     ⟨(some 9), .mv (.tmp 0), none⟩,
     ⟨(some 10), .len (.tmp 9), none⟩,
     ⟨(some 11), .mv (.const (.int .i64 0)), none⟩] [0, 1, 9, 10, 11])
 (.block 0 (.loop [0, 1, 9, 10, 11]
   (.seq (.reg [
       ⟨(some 12), .bin .lss (.tmp 11) (.tmp 10), none⟩] [0, 1, 9, 10, 11, 12])
   (.seq (.cond (.tmp 12)
    (.skip)
    (.exit 0))
   (.seq (.block 1 (.seq (.reg [
        ⟨(some 13), .mv (.tmp 11), none⟩,
        ⟨(some 14), .iaddr 1 (.tmp 9) (.tmp 11), none⟩,
        ⟨(some 15), .load 1 false (.tmp 14), none⟩,
        ⟨(some 5), .mv (.tmp 13), none⟩,
        ⟨(some 6), .mv (.tmp 15), none⟩] [0, 1, 5, 6, 9, 10, 11])
    (.seq (.seq (.reg [
        ⟨(some 16), .mv (.tmp 5), none⟩,
        ⟨(some 17), .mv (.tmp 1), none⟩,
        ⟨(some 18), .len (.tmp 17), none⟩,
        ⟨(some 19), .bin .geq (.tmp 16) (.tmp 18), none⟩] [0, 1, 5, 6, 9, 10, 11, 19])
    (.cond (.tmp 19)
     (.seq (.reg [
         ⟨(some 4), .mv (.const (.int .i64 1)), none⟩] [4])
     (.ret))
     (.skip)))
    (.seq (.reg [
        ⟨(some 20), .mv (.tmp 1), none⟩,
        ⟨(some 21), .mv (.tmp 5), none⟩,
        ⟨(some 22), .iaddr 1 (.tmp 20) (.tmp 21), none⟩,
        ⟨(some 23), .load 1 false (.tmp 22), none⟩,
        ⟨(some 7), .mv (.tmp 23), none⟩] [0, 1, 6, 7, 9, 10, 11])
    (.seq (.reg [
        ⟨(some 24), .mv (.tmp 6), none⟩,
        ⟨(some 25), .mv (.tmp 7), none⟩,
        ⟨(some 26), .call 122 [(.tmp 24), (.tmp 25)], none⟩,
        ⟨(some 8), .mv (.tmp 26), none⟩] [0, 1, 8, 9, 10, 11])
    (.seq (.reg [
        ⟨(some 27), .mv (.tmp 8), none⟩,
        ⟨(some 28), .bin .neq (.tmp 27) (.const (.int .i64 0)), none⟩] [0, 1, 8, 9, 10, 11, 28])
    (.cond (.tmp 28)
     (.seq (.reg [
         ⟨(some 29), .mv (.tmp 8), none⟩,
         ⟨(some 4), .mv (.tmp 29), none⟩] [4])
     (.ret))
     (.skip))))))))
   (.reg [
       ⟨(some 30), .bin .add (.tmp 11) (.const (.int .i64 1)), none⟩,
       ⟨(some 11), .mv (.tmp 30), none⟩] [0, 1, 9, 10, 11])))))))
 (.seq (.seq (.reg [
     ⟨(some 31), .mv (.tmp 0), none⟩,
     ⟨(some 32), .len (.tmp 31), none⟩,
     ⟨(some 33), .mv (.tmp 1), none⟩,
     ⟨(some 34), .len (.tmp 33), none⟩,
     ⟨(some 35), .bin .lss (.tmp 32) (.tmp 34), none⟩] [35])
 (.cond (.tmp 35)
  (.seq (.reg [
      ⟨(some 4), .mv (.const (.int .i64 (-1))), none⟩] [4])
  (.ret))
  (.skip)))
 (.seq (.reg [
     ⟨(some 4), .mv (.const (.int .i64 0)), none⟩] [4])
 (.ret))))
theorem s_slices_Compare_Lint64_int64 : stripF Try.prog 77 [[0, 1], [0, 1, 9, 10, 11], [0, 1, 9, 10, 11], [0, 1, 9, 10, 11, 12], [0, 1, 5, 6, 9, 10, 11], [0, 1, 5, 6, 9, 10, 11, 19], [4], [0, 1, 6, 7, 9, 10, 11], [0, 1, 8, 9, 10, 11], [0, 1, 8, 9, 10, 11, 28], [4], [0, 1, 9, 10, 11], [35], [4], [4]] = some (c_slices_Compare_Lint64_int64, [.tmp 4], 36) := by kernel_rfl

/-- loop.example/g00920/spec.l26Ok -/
abbrev f_spec_l26Ok : Nat := 78
def c_spec_l26Ok : SC :=
 .seq (.reg [
     ⟨(some 2), .mv (.const (.bool false)), none⟩] [0])
 (.seq (.seq (.reg [
     ⟨(some 5), .mv (.tmp 0), none⟩,
     ⟨(some 6), .len (.tmp 5), none⟩,
     ⟨(some 7), .bin .lss (.tmp 6) (.const (.int .i64 1)), none⟩,
     ⟨(some 8), .mv (.tmp 7), none⟩,
     ⟨(some 9), .mv (.tmp 0), (some (8, false))⟩,
     ⟨(some 10), .len (.tmp 9), (some (8, false))⟩,
     ⟨(some 11), .bin .gtr (.tmp 10) (.const (.int .i64 2000)), (some (8, false))⟩,
     ⟨(some 12), .pick (.tmp 8) (.const (.bool true)) (.tmp 11), none⟩] [0, 12])
 (.cond (.tmp 12)
  (.seq (.reg [
      ⟨(some 2), .mv (.const (.bool false)), none⟩] [2])
  (.ret))
  (.skip)))
 (.seq (.seq (.reg [
     ⟨(some 3), .mv (.const (.int .i64 0)), none⟩] [0, 3])
 (.block 0 (.loop [0, 3]
   (.seq (.seq (.reg [
       ⟨(some 13), .mv (.tmp 3), none⟩,
       ⟨(some 14), .mv (.tmp 0), none⟩,
       ⟨(some 15), .len (.tmp 14), none⟩,
       ⟨(some 16), .bin .lss (.tmp 13) (.tmp 15), none⟩] [0, 3, 16])
   (.cond (.tmp 16)
    (.skip)
    (.exit 0)))
   (.seq (.block 1 (.seq (.seq (.reg [
        ⟨(some 19), .mv (.tmp 0), none⟩,
        ⟨(some 20), .mv (.tmp 3), none⟩,
        ⟨(some 21), .iaddr 1 (.tmp 19) (.tmp 20), none⟩,
        ⟨(some 22), .load 1 false (.tmp 21), none⟩,
        ⟨(some 23), .qlen (.tmp 22), none⟩,
        ⟨(some 24), .mv (.tmp 0), none⟩,
        ⟨(some 25), .iaddr 1 (.tmp 24) (.const (.int .i64 0)), none⟩,
        ⟨(some 26), .load 1 false (.tmp 25), none⟩,
        ⟨(some 27), .qlen (.tmp 26), none⟩,
        ⟨(some 28), .bin .neq (.tmp 23) (.tmp 27), none⟩,
        ⟨(some 29), .mv (.tmp 28), none⟩,
        ⟨(some 30), .mv (.tmp 0), (some (29, false))⟩,
        ⟨(some 31), .mv (.tmp 3), (some (29, false))⟩,
        ⟨(some 32), .iaddr 1 (.tmp 30) (.tmp 31), (some (29, false))⟩,
        ⟨(some 33), .load 1 false (.tmp 32), (some (29, false))⟩,
        ⟨(some 34), .qlen (.tmp 33), (some (29, false))⟩,
        ⟨(some 35), .bin .gtr (.tmp 34) (.const (.int .i64 2000)), (some (29, false))⟩,
        ⟨(some 36), .pick (.tmp 29) (.const (.bool true)) (.tmp 35), none⟩] [0, 3, 36])
    (.cond (.tmp 36)
     (.seq (.reg [
         ⟨(some 2), .mv (.const (.bool false)), none⟩] [2])
     (.ret))
     (.skip)))
    (.seq (.reg [
        ⟨(some 4), .mv (.const (.int .i64 0)), none⟩] [0, 3, 4])
    (.block 2 (.loop [0, 3, 4]
      (.seq (.seq (.reg [
          ⟨(some 37), .mv (.tmp 4), none⟩,
          ⟨(some 38), .mv (.tmp 0), none⟩,
          ⟨(some 39), .mv (.tmp 3), none⟩,
          ⟨(some 40), .iaddr 1 (.tmp 38) (.tmp 39), none⟩,
          ⟨(some 41), .load 1 false (.tmp 40), none⟩,
          ⟨(some 42), .len (.tmp 41), none⟩,
          ⟨(some 43), .bin .lss (.tmp 37) (.tmp 42), none⟩] [0, 3, 4, 43])
      (.cond (.tmp 43)
       (.skip)
       (.exit 2)))
      (.seq (.block 3 (.seq (.reg [
           ⟨(some 46), .mv (.tmp 0), none⟩,
           ⟨(some 47), .mv (.tmp 3), none⟩,
           ⟨(some 48), .iaddr 1 (.tmp 46) (.tmp 47), none⟩,
           ⟨(some 49), .load 1 false (.tmp 48), none⟩,
           ⟨(some 50), .mv (.tmp 4), none⟩,
           ⟨(some 51), .iaddr 1 (.tmp 49) (.tmp 50), none⟩,
           ⟨(some 52), .load 1 false (.tmp 51), none⟩,
           ⟨(some 53), .call 57 [(.tmp 52), (.const (.int .i64 0)), (.const (.int .i64 2000))], none⟩,
           ⟨(some 54), .un .not (.tmp 53), none⟩] [0, 3, 4, 54])
       (.cond (.tmp 54)
        (.seq (.reg [
            ⟨(some 2), .mv (.const (.bool false)), none⟩] [2])
        (.ret))
        (.skip))))
      (.reg [
          ⟨(some 44), .mv (.tmp 4), none⟩,
          ⟨(some 45), .bin .add (.tmp 44) (.const (.int .i64 1)), none⟩,
          ⟨(some 4), .mv (.tmp 45), none⟩] [0, 3, 4]))))))))
   (.reg [
       ⟨(some 17), .mv (.tmp 3), none⟩,
       ⟨(some 18), .bin .add (.tmp 17) (.const (.int .i64 1)), none⟩,
       ⟨(some 3), .mv (.tmp 18), none⟩] [0, 3]))))))
 (.seq (.reg [
     ⟨(some 2), .mv (.const (.bool true)), none⟩] [2])
 (.ret))))
theorem s_spec_l26Ok : stripF Try.prog 78 [[0], [0, 12], [2], [0, 3], [0, 3], [0, 3, 16], [0, 3, 36], [2], [0, 3, 4], [0, 3, 4], [0, 3, 4, 43], [0, 3, 4, 54], [2], [0, 3, 4], [0, 3], [2]] = some (c_spec_l26Ok, [.tmp 2], 55) := by kernel_rfl

/-- loop.example/g00920/spec.l26Lambda -/
abbrev f_spec_l26Lambda : Nat := 79
def c_spec_l26Lambda : SC :=
 .seq (.reg [
     ⟨(some 2), .mv (.const (.bool false)), none⟩] [0])
 (.seq (.reg [
     ⟨(some 3), .mv (.tmp 0), none⟩,
     ⟨(some 4), .call 57 [(.tmp 3), (.const (.int .i64 1)), (.const (.int .i64 2000))], none⟩,
     ⟨(some 2), .mv (.tmp 4), none⟩] [2])
 (.ret))
theorem s_spec_l26Lambda : stripF Try.prog 79 [[0], [2]] = some (c_spec_l26Lambda, [.tmp 2], 5) := by kernel_rfl

/-- loop.example/g00920/spec.l26Choice -/
abbrev f_spec_l26Choice : Nat := 80
def c_spec_l26Choice : SC :=
 .seq (.reg [
     ⟨(some 6), .mv (.const (.bool false)), none⟩] [0, 1, 2])
 (.seq (.seq (.reg [
     ⟨(some 10), .mv (.tmp 2), none⟩,
     ⟨(some 11), .mv (.tmp 0), none⟩,
     ⟨(some 12), .iaddr 1 (.tmp 11) (.const (.int .i64 0)), none⟩,
     ⟨(some 13), .load 1 false (.tmp 12), none⟩,
     ⟨(some 14), .len (.tmp 13), none⟩,
     ⟨(some 15), .bin .sub (.tmp 14) (.const (.int .i64 1)), none⟩,
     ⟨(some 16), .call 100 [(.tmp 10), (.const (.int .i64 0)), (.tmp 15)], none⟩,
     ⟨(some 17), .un .not (.tmp 16), none⟩] [0, 1, 2, 17])
 (.cond (.tmp 17)
  (.seq (.reg [
      ⟨(some 6), .mv (.const (.bool false)), none⟩] [6])
  (.ret))
  (.skip)))
 (.seq (.seq (.reg [
     ⟨(some 7), .mv (.const (.int .i64 0)), none⟩] [0, 1, 2, 7])
 (.block 0 (.loop [0, 1, 2, 7]
   (.seq (.seq (.reg [
       ⟨(some 18), .mv (.tmp 7), none⟩,
       ⟨(some 19), .mv (.tmp 0), none⟩,
       ⟨(some 20), .len (.tmp 19), none⟩,
       ⟨(some 21), .bin .lss (.tmp 18) (.tmp 20), none⟩] [0, 1, 2, 7, 21])
   (.cond (.tmp 21)
    (.skip)
    (.exit 0)))
   (.seq (.block 1 (.seq (.reg [
        ⟨(some 8), .mv (.const (.int .i64 0)), none⟩] [0, 1, 2, 7, 8])
    (.seq (.seq (.reg [
        ⟨(some 9), .mv (.const (.int .i64 0)), none⟩] [0, 1, 2, 7, 8, 9])
    (.block 2 (.loop [0, 1, 2, 7, 8, 9]
      (.seq (.seq (.reg [
          ⟨(some 24), .mv (.tmp 9), none⟩,
          ⟨(some 25), .mv (.tmp 2), none⟩,
          ⟨(some 26), .len (.tmp 25), none⟩,
          ⟨(some 27), .bin .lss (.tmp 24) (.tmp 26), none⟩] [0, 1, 2, 7, 8, 9, 27])
      (.cond (.tmp 27)
       (.skip)
       (.exit 2)))
      (.seq (.block 3 (.reg [
           ⟨(some 30), .mv (.tmp 8), none⟩,
           ⟨(some 31), .mv (.tmp 0), none⟩,
           ⟨(some 32), .mv (.tmp 7), none⟩,
           ⟨(some 33), .iaddr 1 (.tmp 31) (.tmp 32), none⟩,
           ⟨(some 34), .load 1 false (.tmp 33), none⟩,
           ⟨(some 35), .mv (.tmp 2), none⟩,
           ⟨(some 36), .mv (.tmp 9), none⟩,
           ⟨(some 37), .iaddr 1 (.tmp 35) (.tmp 36), none⟩,
           ⟨(some 38), .load 1 false (.tmp 37), none⟩,
           ⟨(some 39), .iaddr 1 (.tmp 34) (.tmp 38), none⟩,
           ⟨(some 40), .load 1 false (.tmp 39), none⟩,
           ⟨(some 41), .bin .add (.tmp 30) (.tmp 40), none⟩,
           ⟨(some 8), .mv (.tmp 41), none⟩] [0, 1, 2, 7, 8, 9]))
      (.reg [
          ⟨(some 28), .mv (.tmp 9), none⟩,
          ⟨(some 29), .bin .add (.tmp 28) (.const (.int .i64 1)), none⟩,
          ⟨(some 9), .mv (.tmp 29), none⟩] [0, 1, 2, 7, 8, 9]))))))
    (.seq (.reg [
        ⟨(some 42), .mv (.tmp 8), none⟩,
        ⟨(some 43), .mv (.tmp 1), none⟩,
        ⟨(some 44), .bin .neq (.tmp 42) (.tmp 43), none⟩] [0, 1, 2, 7, 44])
    (.cond (.tmp 44)
     (.seq (.reg [
         ⟨(some 6), .mv (.const (.bool false)), none⟩] [6])
     (.ret))
     (.skip))))))
   (.reg [
       ⟨(some 22), .mv (.tmp 7), none⟩,
       ⟨(some 23), .bin .add (.tmp 22) (.const (.int .i64 1)), none⟩,
       ⟨(some 7), .mv (.tmp 23), none⟩] [0, 1, 2, 7]))))))
 (.seq (.reg [
     ⟨(some 6), .mv (.const (.bool true)), none⟩] [6])
 (.ret))))
theorem s_spec_l26Choice : stripF Try.prog 80 [[0, 1, 2], [0, 1, 2, 17], [6], [0, 1, 2, 7], [0, 1, 2, 7], [0, 1, 2, 7, 21], [0, 1, 2, 7, 8], [0, 1, 2, 7, 8, 9], [0, 1, 2, 7, 8, 9], [0, 1, 2, 7, 8, 9, 27], [0, 1, 2, 7, 8, 9], [0, 1, 2, 7, 8, 9], [0, 1, 2, 7, 44], [6], [0, 1, 2, 7], [6]] = some (c_spec_l26Choice, [.tmp 6], 45) := by kernel_rfl

/-- loop.example/g00920/impl.isCounts -/
abbrev f_impl_isCounts : Nat := 81
def c_impl_isCounts : SC :=
 .seq (.reg [
     ⟨(some 1), .box 22 (.tmp 0), none⟩,
     ⟨(some 2), .mv (.const (.bool false)), none⟩] [1])
 (.seq (.seq (.reg [
     ⟨(some 3), .load 1 false (.tmp 1), none⟩,
     ⟨(some 4), .call 101 [(.tmp 3)], none⟩,
     ⟨(some 5), .call 59 [(.tmp 4), (.const (.int .i64 1)), (.const (.int .i64 2000))], none⟩,
     ⟨(some 6), .un .not (.tmp 5), none⟩,
     ⟨(some 7), .mv (.tmp 6), none⟩,
     ⟨(some 8), .load 1 false (.tmp 1), (some (7, false))⟩,
     ⟨(some 9), .iaddr 1 (.tmp 8) (.const (.int .i64 0)), (some (7, false))⟩,
     ⟨(some 10), .load 1 false (.tmp 9), (some (7, false))⟩,
     ⟨(some 11), .len (.tmp 10), (some (7, false))⟩,
     ⟨(some 12), .bin .gtr (.tmp 11) (.const (.int .i64 2000)), (some (7, false))⟩,
     ⟨(some 13), .pick (.tmp 7) (.const (.bool true)) (.tmp 12), none⟩] [1, 13])
 (.cond (.tmp 13)
  (.seq (.reg [
      ⟨(some 2), .mv (.const (.bool false)), none⟩] [2])
  (.ret))
  (.skip)))
 (.seq (.reg [
     ⟨(some 14), .load 1 false (.tmp 1), none⟩,
     ⟨(some 15), .mkf 123 [(.tmp 1)], none⟩,
     ⟨(some 16), .call 65 [(.tmp 14), (.tmp 15)], none⟩,
     ⟨(some 17), .un .not (.tmp 16), none⟩,
     ⟨(some 2), .mv (.tmp 17), none⟩] [2])
 (.ret)))
theorem s_impl_isCounts : stripF Try.prog 81 [[1], [1, 13], [2], [2]] = some (c_impl_isCounts, [.tmp 2], 18) := by kernel_rfl

/-- loop.example/g00920/impl.isLambda -/
abbrev f_impl_isLambda : Nat := 82
def c_impl_isLambda : SC :=
 .seq (.reg [
     ⟨(some 2), .mv (.const (.bool false)), none⟩] [0])
 (.seq (.reg [
     ⟨(some 3), .mv (.tmp 0), none⟩,
     ⟨(some 4), .call 59 [(.tmp 3), (.const (.int .i64 1)), (.const (.int .i64 2000))], none⟩,
     ⟨(some 2), .mv (.tmp 4), none⟩] [2])
 (.ret))
theorem s_impl_isLambda : stripF Try.prog 82 [[0], [2]] = some (c_impl_isLambda, [.tmp 2], 5) := by kernel_rfl

/-- loop.example/g00920/impl.size[int64] -/
abbrev f_impl_size_int64 : Nat := 83
def c_impl_size_int64 : SC :=
 .seq (.reg [
     ⟨(some 2), .mv (.const (.int .i64 0)), none⟩] [0])
 (.seq (.reg [
     ⟨(some 3), .mv (.tmp 0), none⟩,
     ⟨(some 4), .len (.tmp 3), none⟩,
     ⟨(some 2), .mv (.tmp 4), none⟩] [2])
 (.ret))
theorem s_impl_size_int64 : stripF Try.prog 83 [[0], [2]] = some (c_impl_size_int64, [.tmp 2], 5) := by kernel_rfl

/-- loop.example/g00920/impl.IsOrbitChoice$1 -/
abbrev f_impl_IsOrbitChoice_c1 : Nat := 84
def c_impl_IsOrbitChoice_c1 : SC :=
 .seq (.reg [
     ⟨(some 4), .mv (.const (.bool false)), none⟩] [0, 1, 2])
 (.seq (.reg [
     ⟨(some 5), .mv (.const (.int .i64 0)), none⟩] [0, 1, 2, 5])
 (.seq (.seq (.reg [
     ⟨(some 8), .load 1 false (.tmp 1), none⟩,
     ⟨(some 9), .len (.tmp 8), none⟩,
     ⟨(some 10), .mv (.const (.int .i64 0)), none⟩] [0, 2, 5, 8, 9, 10])
 (.block 0 (.loop [0, 2, 5, 8, 9, 10]
   (.seq (.reg [
       ⟨(some 11), .bin .lss (.tmp 10) (.tmp 9), none⟩] [0, 2, 5, 8, 9, 10, 11])
   (.seq (.cond (.tmp 11)
    (.skip)
    (.exit 0))
   (.seq (.block 1 (.seq (.reg [
        ⟨(some 12), .iaddr 1 (.tmp 8) (.tmp 10), none⟩,
        ⟨(some 13), .load 1 false (.tmp 12), none⟩,
        ⟨(some 7), .mv (.tmp 13), none⟩] [0, 2, 5, 7, 8, 9, 10])
    (.reg [
        ⟨(some 14), .mv (.tmp 5), none⟩,
        ⟨(some 15), .mv (.tmp 0), none⟩,
        ⟨(some 16), .mv (.tmp 7), none⟩,
        ⟨(some 17), .iaddr 1 (.tmp 15) (.tmp 16), none⟩,
        ⟨(some 18), .load 1 false (.tmp 17), none⟩,
        ⟨(some 19), .bin .add (.tmp 14) (.tmp 18), none⟩,
        ⟨(some 5), .mv (.tmp 19), none⟩] [0, 2, 5, 8, 9, 10])))
   (.reg [
       ⟨(some 20), .bin .add (.tmp 10) (.const (.int .i64 1)), none⟩,
       ⟨(some 10), .mv (.tmp 20), none⟩] [0, 2, 5, 8, 9, 10])))))))
 (.seq (.reg [
     ⟨(some 21), .mv (.tmp 5), none⟩,
     ⟨(some 22), .load 1 false (.tmp 2), none⟩,
     ⟨(some 23), .bin .neq (.tmp 21) (.tmp 22), none⟩,
     ⟨(some 4), .mv (.tmp 23), none⟩] [4])
 (.ret))))
theorem s_impl_IsOrbitChoice_c1 : stripF Try.prog 84 [[0, 1, 2], [0, 1, 2, 5], [0, 2, 5, 8, 9, 10], [0, 2, 5, 8, 9, 10], [0, 2, 5, 8, 9, 10, 11], [0, 2, 5, 7, 8, 9, 10], [0, 2, 5, 8, 9, 10], [0, 2, 5, 8, 9, 10], [4]] = some (c_impl_IsOrbitChoice_c1, [.tmp 4], 24) := by kernel_rfl

/-- slices.ContainsFunc[[]int64,int64] -/
abbrev f_slices_ContainsFunc_Lint64_int64 : Nat := 94
def c_slices_ContainsFunc_Lint64_int64 : SC :=
 .seq (.reg [
     ⟨(some 4), .mv (.const (.bool false)), none⟩] [0, 1])
 (.seq (.reg [
     ⟨(some 5), .mv (.tmp 0), none⟩,
     ⟨(some 6), .mv (.tmp 1), none⟩,
     ⟨(some 7), .call 128 [(.tmp 5), (.tmp 6)], none⟩,
     ⟨(some 8), .bin .geq (.tmp 7) (.const (.int .i64 0)), none⟩,
     ⟨(some 4), .mv (.tmp 8), none⟩] [4])
 (.ret))
theorem s_slices_ContainsFunc_Lint64_int64 : stripF Try.prog 94 [[0, 1], [4]] = some (c_slices_ContainsFunc_Lint64_int64, [.tmp 4], 9) := by kernel_rfl

/-- loop.example/g00920/impl.size[[]int64] -/
abbrev f_impl_size_Lint64 : Nat := 101
def c_impl_size_Lint64 : SC :=
 .seq (.reg [
     ⟨(some 2), .mv (.const (.int .i64 0)), none⟩] [0])
 (.seq (.reg [
     ⟨(some 3), .mv (.tmp 0), none⟩,
     ⟨(some 4), .len (.tmp 3), none⟩,
     ⟨(some 2), .mv (.tmp 4), none⟩] [2])
 (.ret))
theorem s_impl_size_Lint64 : stripF Try.prog 101 [[0], [2]] = some (c_impl_size_Lint64, [.tmp 2], 5) := by kernel_rfl

/-- loop.example/g00920/spec.CompareLists -/
abbrev f_spec_CompareLists : Nat := 120
def c_spec_CompareLists : SC :=
 .seq (.reg [
     ⟨(some 4), .mv (.const (.int .i64 0)), none⟩] [0, 1])
 (.seq (.seq (.reg [
     ⟨(some 5), .mv (.const (.int .i64 0)), none⟩] [0, 1, 5])
 (.block 0 (.loop [0, 1, 5]
   (.seq (.seq (.reg [
       ⟨(some 6), .mv (.tmp 5), none⟩,
       ⟨(some 7), .mv (.tmp 0), none⟩,
       ⟨(some 8), .len (.tmp 7), none⟩,
       ⟨(some 9), .bin .lss (.tmp 6) (.tmp 8), none⟩,
       ⟨(some 10), .mv (.tmp 9), none⟩,
       ⟨(some 11), .mv (.tmp 5), (some (10, true))⟩,
       ⟨(some 12), .mv (.tmp 1), (some (10, true))⟩,
       ⟨(some 13), .len (.tmp 12), (some (10, true))⟩,
       ⟨(some 14), .bin .lss (.tmp 11) (.tmp 13), (some (10, true))⟩,
       ⟨(some 15), .pick (.tmp 10) (.tmp 14) (.const (.bool false)), none⟩] [0, 1, 5, 15])
   (.cond (.tmp 15)
    (.skip)
    (.exit 0)))
   (.seq (.block 1 (.seq (.seq (.reg [
        ⟨(some 18), .mv (.tmp 0), none⟩,
        ⟨(some 19), .mv (.tmp 5), none⟩,
        ⟨(some 20), .iaddr 1 (.tmp 18) (.tmp 19), none⟩,
        ⟨(some 21), .load 1 false (.tmp 20), none⟩,
        ⟨(some 22), .mv (.tmp 1), none⟩,
        ⟨(some 23), .mv (.tmp 5), none⟩,
        ⟨(some 24), .iaddr 1 (.tmp 22) (.tmp 23), none⟩,
        ⟨(some 25), .load 1 false (.tmp 24), none⟩,
        ⟨(some 26), .bin .lss (.tmp 21) (.tmp 25), none⟩] [0, 1, 5, 26])
    (.cond (.tmp 26)
     (.seq (.reg [
         ⟨(some 4), .mv (.const (.int .i64 (-1))), none⟩] [4])
     (.ret))
     (.skip)))
    (.seq (.reg [
        ⟨(some 27), .mv (.tmp 0), none⟩,
        ⟨(some 28), .mv (.tmp 5), none⟩,
        ⟨(some 29), .iaddr 1 (.tmp 27) (.tmp 28), none⟩,
        ⟨(some 30), .load 1 false (.tmp 29), none⟩,
        ⟨(some 31), .mv (.tmp 1), none⟩,
        ⟨(some 32), .mv (.tmp 5), none⟩,
        ⟨(some 33), .iaddr 1 (.tmp 31) (.tmp 32), none⟩,
        ⟨(some 34), .load 1 false (.tmp 33), none⟩,
        ⟨(some 35), .bin .gtr (.tmp 30) (.tmp 34), none⟩] [0, 1, 5, 35])
    (.cond (.tmp 35)
     (.seq (.reg [
         ⟨(some 4), .mv (.const (.int .i64 1)), none⟩] [4])
     (.ret))
     (.skip)))))
   (.reg [
       ⟨(some 16), .mv (.tmp 5), none⟩,
       ⟨(some 17), .bin .add (.tmp 16) (.const (.int .i64 1)), none⟩,
       ⟨(some 5), .mv (.tmp 17), none⟩] [0, 1, 5]))))))
 (.seq (.seq (.reg [
     ⟨(some 36), .mv (.tmp 0), none⟩,
     ⟨(some 37), .len (.tmp 36), none⟩,
     ⟨(some 38), .mv (.tmp 1), none⟩,
     ⟨(some 39), .len (.tmp 38), none⟩,
     ⟨(some 40), .bin .lss (.tmp 37) (.tmp 39), none⟩] [0, 1, 40])
 (.cond (.tmp 40)
  (.seq (.reg [
      ⟨(some 4), .mv (.const (.int .i64 (-1))), none⟩] [4])
  (.ret))
  (.skip)))
 (.seq (.seq (.reg [
     ⟨(some 41), .mv (.tmp 0), none⟩,
     ⟨(some 42), .len (.tmp 41), none⟩,
     ⟨(some 43), .mv (.tmp 1), none⟩,
     ⟨(some 44), .len (.tmp 43), none⟩,
     ⟨(some 45), .bin .gtr (.tmp 42) (.tmp 44), none⟩] [45])
 (.cond (.tmp 45)
  (.seq (.reg [
      ⟨(some 4), .mv (.const (.int .i64 1)), none⟩] [4])
  (.ret))
  (.skip)))
 (.seq (.reg [
     ⟨(some 4), .mv (.const (.int .i64 0)), none⟩] [4])
 (.ret)))))
theorem s_spec_CompareLists : stripF Try.prog 120 [[0, 1], [0, 1, 5], [0, 1, 5], [0, 1, 5, 15], [0, 1, 5, 26], [4], [0, 1, 5, 35], [4], [0, 1, 5], [0, 1, 40], [4], [45], [4], [4]] = some (c_spec_CompareLists, [.tmp 4], 46) := by kernel_rfl

/-- loop.example/g00920/impl.ValidSet -/
abbrev f_impl_ValidSet : Nat := 121
def c_impl_ValidSet : SC :=
 .seq (.reg [
     ⟨(some 4), .mv (.const (.bool false)), none⟩] [0, 1])
 (.seq (.reg [
     ⟨(some 5), .mv (.const (.int .i64 (-1))), none⟩] [0, 1, 5])
 (.seq (.seq (.reg [
     ⟨(some 8), .mv (.tmp 0), none⟩,
     ⟨(some 9), .len (.tmp 8), none⟩,
     ⟨(some 10), .mv (.const (.int .i64 0)), none⟩] [1, 5, 8, 9, 10])
 (.block 0 (.loop [1, 5, 8, 9, 10]
   (.seq (.reg [
       ⟨(some 11), .bin .lss (.tmp 10) (.tmp 9), none⟩] [1, 5, 8, 9, 10, 11])
   (.seq (.cond (.tmp 11)
    (.skip)
    (.exit 0))
   (.seq (.block 1 (.seq (.reg [
        ⟨(some 12), .iaddr 1 (.tmp 8) (.tmp 10), none⟩,
        ⟨(some 13), .load 1 false (.tmp 12), none⟩,
        ⟨(some 7), .mv (.tmp 13), none⟩] [1, 5, 7, 8, 9, 10])
    (.seq (.seq (.reg [
        ⟨(some 14), .mv (.tmp 7), none⟩,
        ⟨(some 15), .mv (.tmp 5), none⟩,
        ⟨(some 16), .bin .leq (.tmp 14) (.tmp 15), none⟩,
        ⟨(some 17), .mv (.tmp 16), none⟩,
        ⟨(some 18), .mv (.tmp 7), (some (17, false))⟩,
        ⟨(some 19), .mv (.tmp 1), (some (17, false))⟩,
        ⟨(some 20), .bin .geq (.tmp 18) (.tmp 19), (some (17, false))⟩,
        ⟨(some 21), .pick (.tmp 17) (.const (.bool true)) (.tmp 20), none⟩] [1, 7, 8, 9, 10, 21])
    (.cond (.tmp 21)
     (.seq (.reg [
         ⟨(some 4), .mv (.const (.bool false)), none⟩] [4])
     (.ret))
     (.skip)))
    (.reg [
        ⟨(some 22), .mv (.tmp 7), none⟩,
        ⟨(some 5), .mv (.tmp 22), none⟩] [1, 5, 8, 9, 10]))))
   (.reg [
       ⟨(some 23), .bin .add (.tmp 10) (.const (.int .i64 1)), none⟩,
       ⟨(some 10), .mv (.tmp 23), none⟩] [1, 5, 8, 9, 10])))))))
 (.seq (.reg [
     ⟨(some 24), .mv (.tmp 1), none⟩,
     ⟨(some 25), .call 59 [(.tmp 24), (.const (.int .i64 0)), (.const (.int .i64 32))], none⟩,
     ⟨(some 4), .mv (.tmp 25), none⟩] [4])
 (.ret))))
theorem s_impl_ValidSet : stripF Try.prog 121 [[0, 1], [0, 1, 5], [1, 5, 8, 9, 10], [1, 5, 8, 9, 10], [1, 5, 8, 9, 10, 11], [1, 5, 7, 8, 9, 10], [1, 7, 8, 9, 10, 21], [4], [1, 5, 8, 9, 10], [1, 5, 8, 9, 10], [4]] = some (c_impl_ValidSet, [.tmp 4], 26) := by kernel_rfl

/-- cmp.Compare[int64] -/
abbrev f_cmp_Compare_int64 : Nat := 122
def c_cmp_Compare_int64 : SC :=
 .seq (.reg [
     ⟨(some 4), .mv (.const (.int .i64 0)), none⟩] [0, 1])
 (.seq (.reg [
     ⟨(some 7), .mv (.tmp 0), none⟩,
     ⟨(some 8), .call 140 [(.tmp 7)], none⟩,
     ⟨(some 5), .mv (.tmp 8), none⟩] [0, 1, 5])
 (.seq (.reg [
     ⟨(some 9), .mv (.tmp 1), none⟩,
     ⟨(some 10), .call 140 [(.tmp 9)], none⟩,
     ⟨(some 6), .mv (.tmp 10), none⟩] [0, 1, 5, 6])
 (.seq (.seq (.reg [
     ⟨(some 11), .mv (.tmp 5), none⟩] [0, 1, 6, 11])
 (.cond (.tmp 11)
  (.seq (.seq (.reg [
      ⟨(some 12), .mv (.tmp 6), none⟩] [12])
  (.cond (.tmp 12)
   (.seq (.reg [
       ⟨(some 4), .mv (.const (.int .i64 0)), none⟩] [4])
   (.ret))
   (.skip)))
  (.seq (.reg [
      ⟨(some 4), .mv (.const (.int .i64 (-1))), none⟩] [4])
  (.ret)))
  (.skip)))
 (.seq (.seq (.reg [
     ⟨(some 13), .mv (.tmp 6), none⟩] [0, 1, 13])
 (.cond (.tmp 13)
  (.seq (.reg [
      ⟨(some 4), .mv (.const (.int .i64 1)), none⟩] [4])
  (.ret))
  (.skip)))
 (.seq (.seq (.reg [
     ⟨(some 14), .mv (.tmp 0), none⟩,
     ⟨(some 15), .mv (.tmp 1), none⟩,
     ⟨(some 16), .bin .lss (.tmp 14) (.tmp 15), none⟩] [0, 1, 16])
 (.cond (.tmp 16)
  (.seq (.reg [
      ⟨(some 4), .mv (.const (.int .i64 (-1))), none⟩] [4])
  (.ret))
  (.skip)))
 (.seq (.seq (.reg [
     ⟨(some 17), .mv (.tmp 0), none⟩,
     ⟨(some 18), .mv (.tmp 1), none⟩,
     ⟨(some 19), .bin .gtr (.tmp 17) (.tmp 18), none⟩] [19])
 (.cond (.tmp 19)
  (.seq (.reg [
      ⟨(some 4), .mv (.const (.int .i64 1)), none⟩] [4])
  (.ret))
  (.skip)))
 (.seq (.reg [
     ⟨(some 4), .mv (.const (.int .i64 0)), none⟩] [4])
 (.ret))))))))
theorem s_cmp_Compare_int64 : stripF Try.prog 122 [[0, 1], [0, 1, 5], [0, 1, 5, 6], [0, 1, 6, 11], [12], [4], [4], [0, 1, 13], [4], [0, 1, 16], [4], [19], [4], [4]] = some (c_cmp_Compare_int64, [.tmp 4], 20) := by kernel_rfl

/-- loop.example/g00920/impl.isCounts$1 -/
abbrev f_impl_isCounts_c1 : Nat := 123
def c_impl_isCounts_c1 : SC :=
 .seq (.reg [
     ⟨(some 3), .mv (.const (.bool false)), none⟩] [0, 1])
 (.seq (.reg [
     ⟨(some 4), .mv (.tmp 0), none⟩,
     ⟨(some 5), .len (.tmp 4), none⟩,
     ⟨(some 6), .load 1 false (.tmp 1), none⟩,
     ⟨(some 7), .iaddr 1 (.tmp 6) (.const (.int .i64 0)), none⟩,
     ⟨(some 8), .load 1 false (.tmp 7), none⟩,
     ⟨(some 9), .len (.tmp 8), none⟩,
     ⟨(some 10), .bin .neq (.tmp 5) (.tmp 9), none⟩,
     ⟨(some 11), .mv (.tmp 10), none⟩,
     ⟨(some 12), .mv (.tmp 0), (some (11, false))⟩,
     ⟨(some 13), .call 124 [(.const (.int .i64 2001)), (.tmp 12)], (some (11, false))⟩,
     ⟨(some 14), .un .not (.tmp 13), (some (11, false))⟩,
     ⟨(some 15), .pick (.tmp 11) (.const (.bool true)) (.tmp 14), none⟩,
     ⟨(some 3), .mv (.tmp 15), none⟩] [3])
 (.ret))
theorem s_impl_isCounts_c1 : stripF Try.prog 123 [[0, 1], [3]] = some (c_impl_isCounts_c1, [.tmp 3], 16) := by kernel_rfl

/-- loop.example/g00920/impl.areIn -/
abbrev f_impl_areIn : Nat := 124
def c_impl_areIn : SC :=
 .seq (.reg [
     ⟨(some 2), .box 2 (.tmp 0), none⟩,
     ⟨(some 4), .mv (.const (.bool false)), none⟩] [1, 2])
 (.seq (.reg [
     ⟨(some 5), .mv (.tmp 1), none⟩,
     ⟨(some 6), .mkf 141 [(.tmp 2)], none⟩,
     ⟨(some 7), .call 94 [(.tmp 5), (.tmp 6)], none⟩,
     ⟨(some 8), .un .not (.tmp 7), none⟩,
     ⟨(some 4), .mv (.tmp 8), none⟩] [4])
 (.ret))
theorem s_impl_areIn : stripF Try.prog 124 [[1, 2], [4]] = some (c_impl_areIn, [.tmp 4], 9) := by kernel_rfl

/-- slices.IndexFunc[[]int64,int64] -/
abbrev f_slices_IndexFunc_Lint64_int64 : Nat := 128
def c_slices_IndexFunc_Lint64_int64 : SC :=
 .seq (.reg [
     ⟨(some 4), .mv (.const (.int .i64 0)), none⟩] [0, 1])
 (.seq (.seq (.reg [
     ⟨(some 6), .mv (.tmp 0), none⟩,
     ⟨(some 7), .len (.tmp 6), none⟩,
     ⟨(some 8), .mv (.const (.int .i64 0)), none⟩] [0, 1, 7, 8])
 (.block 0 (.loop [0, 1, 7, 8]
   (.seq (.reg [
       ⟨(some 9), .bin .lss (.tmp 8) (.tmp 7), none⟩] [0, 1, 7, 8, 9])
   (.seq (.cond (.tmp 9)
    (.skip)
    (.exit 0))
   (.seq (.block 1 (.seq (.reg [
        ⟨(some 10), .mv (.tmp 8), none⟩,
        ⟨(some 5), .mv (.tmp 10), none⟩] [0, 1, 5, 7, 8])
    (.seq (.reg [
        ⟨(some 11), .mv (.tmp 1), none⟩,
        ⟨(some 12), .mv (.tmp 0), none⟩,
        ⟨(some 13), .mv (.tmp 5), none⟩,
        ⟨(some 14), .iaddr 1 (.tmp 12) (.tmp 13), none⟩,
        ⟨(some 15), .load 1 false (.tmp 14), none⟩,
        ⟨(some 16), .callv (.tmp 11) [(.tmp 15)], none⟩] [0, 1, 5, 7, 8, 16])
    (.cond (.tmp 16)
     (.seq (.reg [
         ⟨(some 17), .mv (.tmp 5), none⟩,
         ⟨(some 4), .mv (.tmp 17), none⟩] [4])
     (.ret))
     (.skip)))))
   (.reg [
       ⟨(some 18), .bin .add (.tmp 8) (.const (.int .i64 1)), none⟩,
       ⟨(some 8), .mv (.tmp 18), none⟩] [0, 1, 7, 8])))))))
 (.seq (.reg [
     ⟨(some 4), .mv (.const (.int .i64 (-1))), none⟩] [4])
 (.ret)))
theorem s_slices_IndexFunc_Lint64_int64 : stripF Try.prog 128 [[0, 1], [0, 1, 7, 8], [0, 1, 7, 8], [0, 1, 7, 8, 9], [0, 1, 5, 7, 8], [0, 1, 5, 7, 8, 16], [4], [0, 1, 7, 8], [4]] = some (c_slices_IndexFunc_Lint64_int64, [.tmp 4], 19) := by kernel_rfl

/-- cmp.isNaN[int64] -/
abbrev f_cmp_isNaN_int64 : Nat := 140
def c_cmp_isNaN_int64 : SC :=
 .seq (.reg [
     ⟨(some 2), .mv (.const (.bool false)), none⟩] [0])
 (.seq (.reg [
     ⟨(some 3), .mv (.tmp 0), none⟩,
     ⟨(some 4), .mv (.tmp 0), none⟩,
     ⟨(some 5), .bin .neq (.tmp 3) (.tmp 4), none⟩,
     ⟨(some 2), .mv (.tmp 5), none⟩] [2])
 (.ret))
theorem s_cmp_isNaN_int64 : stripF Try.prog 140 [[0], [2]] = some (c_cmp_isNaN_int64, [.tmp 2], 6) := by kernel_rfl

/-- loop.example/g00920/impl.areIn$1 -/
abbrev f_impl_areIn_c1 : Nat := 141
def c_impl_areIn_c1 : SC :=
 .seq (.reg [
     ⟨(some 3), .mv (.const (.bool false)), none⟩] [0, 1])
 (.seq (.reg [
     ⟨(some 4), .mv (.tmp 0), none⟩,
     ⟨(some 5), .load 1 false (.tmp 1), none⟩,
     ⟨(some 6), .bin .sub (.tmp 5) (.const (.int .i64 1)), none⟩,
     ⟨(some 7), .call 59 [(.tmp 4), (.const (.int .i64 0)), (.tmp 6)], none⟩,
     ⟨(some 8), .un .not (.tmp 7), none⟩,
     ⟨(some 3), .mv (.tmp 8), none⟩] [3])
 (.ret))
theorem s_impl_areIn_c1 : stripF Try.prog 141 [[0, 1], [3]] = some (c_impl_areIn_c1, [.tmp 3], 9) := by kernel_rfl

end Go.Proofs.Ytmgbglekgigkmaa
