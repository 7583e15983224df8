/- What a packing leaves. -/
import Derived.Test.YtkpohapopokahaaProg
import Derived.KernelRfl
import Derived.Test.YtkpohapopokahaaK21
import Derived.Test.YtkpohapopokahaaD1
set_option linter.unusedSimpArgs false
set_option linter.unusedVariables false
set_option maxHeartbeats 4000000
namespace Go.Proofs.Ytkpohapopokahaa
open Go.Av

/-! The abstract code of functions, printed by program and tied to the program by the kernel. -/
/-- loop.example/g00920/laws.FnExactLeaveOf -/
abbrev f_laws_FnExactLeaveOf : Nat := 11
def c_laws_FnExactLeaveOf : SC :=
 .seq (.reg [
     ⟨(some 3), .box 45 (.tmp 0), none⟩,
     ⟨(some 6), .mv (.const (.bool false)), none⟩] [1, 2, 3])
 (.seq (.reg [
     ⟨(some 7), .mv (.const (.int .i64 1048576)), none⟩] [1, 2, 3, 7])
 (.seq (.reg [
     ⟨(some 18), .load 2 true (.tmp 3), none⟩,
     ⟨(some 19), .mv (.tmp 7), none⟩,
     ⟨(some 20), .call 31 [(.tmp 18), (.tmp 19)], none⟩,
     ⟨(some 7), .mv (.tmp 20), none⟩] [1, 2, 3, 7])
 (.seq (.seq (.reg [
     ⟨(some 21), .mv (.tmp 7), none⟩,
     ⟨(some 22), .bin .lss (.tmp 21) (.const (.int .i64 0)), none⟩] [1, 2, 3, 22])
 (.cond (.tmp 22)
  (.seq (.reg [
      ⟨(some 6), .mv (.const (.bool true)), none⟩] [6])
  (.ret))
  (.skip)))
 (.seq (.reg [
     ⟨(some 24), .load 2 true (.tmp 3), none⟩,
     ⟨(some 25), .call 33 [(.tmp 24)], none⟩,
     ⟨(some 26), .mv (.tmp 1), none⟩,
     ⟨(some 27), .mv (.tmp 2), none⟩,
     ⟨(some 28), .call 48 [(.tmp 25), (.tmp 26), (.tmp 27)], none⟩,
     ⟨(some 23), .mv (.tmp 28), none⟩,
     ⟨(some 29), .ext (.tmp 23) 0, none⟩,
     ⟨(some 30), .ext (.tmp 23) 1, none⟩,
     ⟨(some 8), .mv (.tmp 29), none⟩,
     ⟨(some 9), .mv (.tmp 30), none⟩] [1, 2, 3, 8, 9])
 (.seq (.reg [
     ⟨(some 31), .load 2 true (.tmp 3), none⟩,
     ⟨(some 32), .call 33 [(.tmp 31)], none⟩,
     ⟨(some 10), .alloc 48 [(.int .i64 0), (.slice none 0 0)], none⟩,
     ⟨none, .store 2 (.tmp 10) (.tmp 32), none⟩] [1, 2, 3, 8, 9, 10])
 (.seq (.reg [
     ⟨(some 34), .load 2 true (.tmp 10), none⟩,
     ⟨(some 35), .mv (.tmp 1), none⟩,
     ⟨(some 36), .mv (.tmp 2), none⟩,
     ⟨(some 37), .call 49 [(.tmp 34), (.tmp 35), (.tmp 36)], none⟩,
     ⟨(some 33), .mv (.tmp 37), none⟩,
     ⟨(some 38), .ext (.tmp 33) 0, none⟩,
     ⟨(some 39), .ext (.tmp 33) 1, none⟩,
     ⟨(some 11), .mv (.tmp 38), none⟩,
     ⟨(some 12), .mv (.tmp 39), none⟩] [1, 2, 3, 8, 9, 10, 11, 12])
 (.seq (.seq (.reg [
     ⟨(some 40), .mv (.tmp 11), none⟩,
     ⟨(some 41), .mv (.tmp 8), none⟩,
     ⟨(some 42), .call 19 [(.tmp 40), (.tmp 41)], none⟩,
     ⟨(some 43), .un .not (.tmp 42), none⟩,
     ⟨(some 44), .mv (.tmp 43), none⟩,
     ⟨(some 45), .mv (.tmp 12), (some (44, false))⟩,
     ⟨(some 46), .mv (.tmp 9), (some (44, false))⟩,
     ⟨(some 47), .bin .neq (.tmp 45) (.tmp 46), (some (44, false))⟩,
     ⟨(some 48), .pick (.tmp 44) (.const (.bool true)) (.tmp 47), none⟩] [1, 2, 3, 8, 9, 10, 11, 12, 48])
 (.cond (.tmp 48)
  (.seq (.reg [
      ⟨(some 6), .mv (.const (.bool false)), none⟩] [6])
  (.ret))
  (.skip)))
 (.seq (.seq (.reg [
     ⟨(some 49), .load 2 true (.tmp 10), none⟩,
     ⟨(some 50), .load 2 true (.tmp 3), none⟩,
     ⟨(some 51), .qcall 33 [(.tmp 50)], none⟩,
     ⟨(some 52), .qcall 35 [(.tmp 49), (.tmp 51)], none⟩,
     ⟨(some 53), .un .not (.tmp 52), none⟩] [1, 2, 3, 8, 9, 10, 11, 12, 53])
 (.cond (.tmp 53)
  (.seq (.reg [
      ⟨(some 6), .mv (.const (.bool false)), none⟩] [6])
  (.ret))
  (.skip)))
 (.seq (.reg [
     ⟨(some 13), .mv (.const (.int .i64 1)), none⟩] [1, 2, 3, 8, 9, 10, 11, 12, 13])
 (.seq (.reg [
     ⟨(some 54), .load 2 true (.tmp 10), none⟩,
     ⟨(some 55), .mv (.tmp 13), none⟩,
     ⟨(some 56), .call 50 [(.tmp 54), (.tmp 55)], none⟩,
     ⟨(some 13), .mv (.tmp 56), none⟩] [1, 2, 3, 8, 9, 11, 12, 13])
 (.seq (.seq (.reg [
     ⟨(some 57), .mv (.tmp 13), none⟩,
     ⟨(some 58), .bin .lss (.tmp 57) (.const (.int .i64 0)), none⟩,
     ⟨(some 59), .mv (.tmp 58), none⟩,
     ⟨(some 60), .mv (.tmp 11), (some (59, false))⟩,
     ⟨(some 61), .mv (.tmp 8), (some (59, false))⟩,
     ⟨(some 62), .call 19 [(.tmp 60), (.tmp 61)], (some (59, false))⟩,
     ⟨(some 63), .un .not (.tmp 62), (some (59, false))⟩,
     ⟨(some 64), .pick (.tmp 59) (.const (.bool true)) (.tmp 63), none⟩,
     ⟨(some 65), .mv (.tmp 64), none⟩,
     ⟨(some 66), .mv (.tmp 12), (some (65, false))⟩,
     ⟨(some 67), .mv (.tmp 9), (some (65, false))⟩,
     ⟨(some 68), .bin .neq (.tmp 66) (.tmp 67), (some (65, false))⟩,
     ⟨(some 69), .pick (.tmp 65) (.const (.bool true)) (.tmp 68), none⟩] [1, 2, 3, 8, 9, 11, 69])
 (.cond (.tmp 69)
  (.seq (.reg [
      ⟨(some 6), .mv (.const (.bool false)), none⟩] [6])
  (.ret))
  (.skip)))
 (.seq (.reg [
     ⟨(some 14), .mv (.const (.int .i64 1)), none⟩] [1, 2, 3, 8, 9, 11, 14])
 (.seq (.reg [
     ⟨(some 70), .mv (.tmp 11), none⟩,
     ⟨(some 71), .mv (.tmp 14), none⟩,
     ⟨(some 72), .call 22 [(.tmp 70), (.tmp 71)], none⟩,
     ⟨(some 14), .mv (.tmp 72), none⟩] [1, 2, 3, 8, 9, 11, 14])
 (.seq (.reg [
     ⟨(some 15), .mv (.const (.int .i64 1)), none⟩] [1, 2, 3, 8, 9, 11, 14, 15])
 (.seq (.reg [
     ⟨(some 73), .mv (.tmp 11), none⟩,
     ⟨(some 74), .mv (.tmp 15), none⟩,
     ⟨(some 75), .call 23 [(.tmp 73), (.tmp 74)], none⟩,
     ⟨(some 15), .mv (.tmp 75), none⟩] [1, 2, 3, 8, 9, 11, 14, 15])
 (.seq (.seq (.reg [
     ⟨(some 76), .mv (.tmp 15), none⟩,
     ⟨(some 77), .bin .lss (.tmp 76) (.const (.int .i64 0)), none⟩] [1, 2, 3, 8, 9, 11, 14, 15, 77])
 (.cond (.tmp 77)
  (.seq (.reg [
      ⟨(some 6), .mv (.const (.bool false)), none⟩] [6])
  (.ret))
  (.skip)))
 (.seq (.seq (.reg [
     ⟨(some 78), .mv (.tmp 15), none⟩,
     ⟨(some 79), .mv (.tmp 14), none⟩,
     ⟨(some 80), .bin .neq (.tmp 78) (.tmp 79), none⟩] [1, 2, 3, 8, 9, 11, 14, 80])
 (.cond (.tmp 80)
  (.seq (.reg [
      ⟨(some 6), .mv (.const (.bool false)), none⟩] [6])
  (.ret))
  (.skip)))
 (.seq (.reg [
     ⟨(some 82), .load 2 true (.tmp 3), none⟩,
     ⟨(some 83), .call 33 [(.tmp 82)], none⟩,
     ⟨(some 84), .mv (.tmp 1), none⟩,
     ⟨(some 85), .mv (.tmp 2), none⟩,
     ⟨(some 86), .call 49 [(.tmp 83), (.tmp 84), (.tmp 85)], none⟩,
     ⟨(some 81), .mv (.tmp 86), none⟩,
     ⟨(some 87), .ext (.tmp 81) 0, none⟩,
     ⟨(some 88), .ext (.tmp 81) 1, none⟩,
     ⟨(some 16), .mv (.tmp 87), none⟩,
     ⟨(some 17), .mv (.tmp 88), none⟩] [8, 9, 11, 14, 16, 17])
 (.seq (.seq (.reg [
     ⟨(some 89), .mv (.tmp 16), none⟩,
     ⟨(some 90), .mv (.tmp 8), none⟩,
     ⟨(some 91), .call 19 [(.tmp 89), (.tmp 90)], none⟩,
     ⟨(some 92), .un .not (.tmp 91), none⟩,
     ⟨(some 93), .mv (.tmp 92), none⟩,
     ⟨(some 94), .mv (.tmp 17), (some (93, false))⟩,
     ⟨(some 95), .mv (.tmp 9), (some (93, false))⟩,
     ⟨(some 96), .bin .neq (.tmp 94) (.tmp 95), (some (93, false))⟩,
     ⟨(some 97), .pick (.tmp 93) (.const (.bool true)) (.tmp 96), none⟩] [11, 14, 97])
 (.cond (.tmp 97)
  (.seq (.reg [
      ⟨(some 6), .mv (.const (.bool false)), none⟩] [6])
  (.ret))
  (.skip)))
 (.seq (.reg [
     ⟨(some 15), .mv (.const (.int .i64 1)), none⟩] [11, 14, 15])
 (.seq (.reg [
     ⟨(some 98), .mv (.tmp 11), none⟩,
     ⟨(some 99), .mv (.tmp 15), none⟩,
     ⟨(some 100), .call 23 [(.tmp 98), (.tmp 99)], none⟩,
     ⟨(some 15), .mv (.tmp 100), none⟩] [14, 15])
 (.seq (.seq (.reg [
     ⟨(some 101), .mv (.tmp 15), none⟩,
     ⟨(some 102), .bin .lss (.tmp 101) (.const (.int .i64 0)), none⟩] [14, 15, 102])
 (.cond (.tmp 102)
  (.seq (.reg [
      ⟨(some 6), .mv (.const (.bool false)), none⟩] [6])
  (.ret))
  (.skip)))
 (.seq (.seq (.reg [
     ⟨(some 103), .mv (.tmp 15), none⟩,
     ⟨(some 104), .mv (.tmp 14), none⟩,
     ⟨(some 105), .bin .neq (.tmp 103) (.tmp 104), none⟩] [105])
 (.cond (.tmp 105)
  (.seq (.reg [
      ⟨(some 6), .mv (.const (.bool false)), none⟩] [6])
  (.ret))
  (.skip)))
 (.seq (.reg [
     ⟨(some 6), .mv (.const (.bool true)), none⟩] [6])
 (.ret)))))))))))))))))))))))))
theorem s_laws_FnExactLeaveOf : stripF Try.prog 11 [[1, 2, 3], [1, 2, 3, 7], [1, 2, 3, 7], [1, 2, 3, 22], [6], [1, 2, 3, 8, 9], [1, 2, 3, 8, 9, 10], [1, 2, 3, 8, 9, 10, 11, 12], [1, 2, 3, 8, 9, 10, 11, 12, 48], [6], [1, 2, 3, 8, 9, 10, 11, 12, 53], [6], [1, 2, 3, 8, 9, 10, 11, 12, 13], [1, 2, 3, 8, 9, 11, 12, 13], [1, 2, 3, 8, 9, 11, 69], [6], [1, 2, 3, 8, 9, 11, 14], [1, 2, 3, 8, 9, 11, 14], [1, 2, 3, 8, 9, 11, 14, 15], [1, 2, 3, 8, 9, 11, 14, 15], [1, 2, 3, 8, 9, 11, 14, 15, 77], [6], [1, 2, 3, 8, 9, 11, 14, 80], [6], [8, 9, 11, 14, 16, 17], [11, 14, 97], [6], [11, 14, 15], [14, 15], [14, 15, 102], [6], [105], [6], [6]] = some (c_laws_FnExactLeaveOf, [.tmp 6], 106) := by kernel_rfl

/-- loop.example/g00920/spec.LeaveOf -/
abbrev f_spec_LeaveOf : Nat := 48
def c_spec_LeaveOf : SC :=
 .seq (.reg [
     ⟨(some 3), .box 48 (.tmp 0), none⟩,
     ⟨(some 6), .mv (.const (.slice none 0 0)), none⟩,
     ⟨(some 7), .mv (.const (.int .i64 0)), none⟩] [1, 2, 3])
 (.seq (.seq (.reg [
     ⟨(some 10), .call 91 [(.tmp 3)], none⟩,
     ⟨(some 11), .un .not (.tmp 10), none⟩] [1, 2, 3, 11])
 (.cond (.tmp 11)
  (.seq (.reg [
      ⟨(some 6), .mv (.const (.slice none 0 0)), none⟩,
      ⟨(some 7), .mv (.const (.int .i64 1)), none⟩] [6, 7])
  (.ret))
  (.skip)))
 (.seq (.seq (.reg [
     ⟨(some 12), .mv (.tmp 1), none⟩,
     ⟨(some 13), .mv (.tmp 2), none⟩,
     ⟨(some 14), .call 75 [(.tmp 3), (.tmp 12), (.tmp 13)], none⟩,
     ⟨(some 15), .un .not (.tmp 14), none⟩] [2, 3, 15])
 (.cond (.tmp 15)
  (.seq (.reg [
      ⟨(some 6), .mv (.const (.slice none 0 0)), none⟩,
      ⟨(some 7), .mv (.const (.int .i64 6)), none⟩] [6, 7])
  (.ret))
  (.skip)))
 (.seq (.reg [
     ⟨(some 16), .call 94 [(.tmp 3)], none⟩,
     ⟨(some 8), .mv (.tmp 16), none⟩] [2, 8])
 (.seq (.seq (.reg [
     ⟨(some 9), .mv (.const (.int .i64 0)), none⟩] [2, 8, 9])
 (.block 0 (.loop [2, 8, 9]
   (.seq (.seq (.reg [
       ⟨(some 17), .mv (.tmp 9), none⟩,
       ⟨(some 18), .mv (.tmp 8), none⟩,
       ⟨(some 19), .len (.tmp 18), none⟩,
       ⟨(some 20), .bin .lss (.tmp 17) (.tmp 19), none⟩] [2, 8, 9, 20])
   (.cond (.tmp 20)
    (.skip)
    (.exit 0)))
   (.seq (.block 1 (.reg [
        ⟨(some 23), .mv (.tmp 8), none⟩,
        ⟨(some 24), .mv (.tmp 9), none⟩,
        ⟨(some 25), .mv (.tmp 2), none⟩,
        ⟨(some 26), .mv (.tmp 8), none⟩,
        ⟨(some 27), .mv (.tmp 9), none⟩,
        ⟨(some 28), .iaddr 1 (.tmp 26) (.tmp 27), none⟩,
        ⟨(some 29), .load 1 false (.tmp 28), none⟩,
        ⟨(some 30), .bin .sub (.tmp 25) (.tmp 29), none⟩,
        ⟨(some 31), .iaddr 1 (.tmp 23) (.tmp 24), none⟩,
        ⟨none, .store 1 (.tmp 31) (.tmp 30), none⟩] [2, 8, 9]))
   (.reg [
       ⟨(some 21), .mv (.tmp 9), none⟩,
       ⟨(some 22), .bin .add (.tmp 21) (.const (.int .i64 1)), none⟩,
       ⟨(some 9), .mv (.tmp 22), none⟩] [2, 8, 9]))))))
 (.seq (.reg [
     ⟨(some 32), .mv (.tmp 8), none⟩,
     ⟨(some 6), .mv (.tmp 32), none⟩,
     ⟨(some 7), .mv (.const (.int .i64 0)), none⟩] [6, 7])
 (.ret))))))
theorem s_spec_LeaveOf : stripF Try.prog 48 [[1, 2, 3], [1, 2, 3, 11], [6, 7], [2, 3, 15], [6, 7], [2, 8], [2, 8, 9], [2, 8, 9], [2, 8, 9, 20], [2, 8, 9], [2, 8, 9], [6, 7]] = some (c_spec_LeaveOf, [.tmp 6, .tmp 7], 33) := by kernel_rfl

/-- loop.example/g00920/impl.LeaveOf -/
abbrev f_impl_LeaveOf : Nat := 49
def c_impl_LeaveOf : SC :=
 .seq (.reg [
     ⟨(some 3), .box 48 (.tmp 0), none⟩,
     ⟨(some 6), .mv (.const (.slice none 0 0)), none⟩,
     ⟨(some 7), .mv (.const (.int .i64 0)), none⟩] [1, 2, 3])
 (.seq (.seq (.reg [
     ⟨(some 10), .load 2 true (.tmp 3), none⟩,
     ⟨(some 11), .call 76 [(.tmp 10)], none⟩,
     ⟨(some 12), .un .not (.tmp 11), none⟩] [1, 2, 3, 12])
 (.cond (.tmp 12)
  (.seq (.reg [
      ⟨(some 6), .mv (.const (.slice none 0 0)), none⟩,
      ⟨(some 7), .mv (.const (.int .i64 1)), none⟩] [6, 7])
  (.ret))
  (.skip)))
 (.seq (.seq (.reg [
     ⟨(some 13), .load 2 true (.tmp 3), none⟩,
     ⟨(some 14), .mv (.tmp 1), none⟩,
     ⟨(some 15), .mv (.tmp 2), none⟩,
     ⟨(some 16), .call 77 [(.tmp 13), (.tmp 14), (.tmp 15)], none⟩,
     ⟨(some 17), .un .not (.tmp 16), none⟩] [2, 3, 17])
 (.cond (.tmp 17)
  (.seq (.reg [
      ⟨(some 6), .mv (.const (.slice none 0 0)), none⟩,
      ⟨(some 7), .mv (.const (.int .i64 6)), none⟩] [6, 7])
  (.ret))
  (.skip)))
 (.seq (.reg [
     ⟨(some 18), .load 2 true (.tmp 3), none⟩,
     ⟨(some 19), .call 95 [(.tmp 18)], none⟩,
     ⟨(some 8), .mv (.tmp 19), none⟩] [2, 8])
 (.seq (.seq (.reg [
     ⟨(some 20), .mv (.tmp 8), none⟩,
     ⟨(some 21), .len (.tmp 20), none⟩,
     ⟨(some 22), .mv (.const (.int .i64 0)), none⟩] [2, 8, 21, 22])
 (.block 0 (.loop [2, 8, 21, 22]
   (.seq (.reg [
       ⟨(some 23), .bin .lss (.tmp 22) (.tmp 21), none⟩] [2, 8, 21, 22, 23])
   (.seq (.cond (.tmp 23)
    (.skip)
    (.exit 0))
   (.seq (.block 1 (.seq (.reg [
        ⟨(some 24), .mv (.tmp 22), none⟩,
        ⟨(some 9), .mv (.tmp 24), none⟩] [2, 8, 9, 21, 22])
    (.reg [
        ⟨(some 25), .mv (.tmp 8), none⟩,
        ⟨(some 26), .mv (.tmp 9), none⟩,
        ⟨(some 27), .mv (.tmp 2), none⟩,
        ⟨(some 28), .mv (.tmp 8), none⟩,
        ⟨(some 29), .mv (.tmp 9), none⟩,
        ⟨(some 30), .iaddr 1 (.tmp 28) (.tmp 29), none⟩,
        ⟨(some 31), .load 1 false (.tmp 30), none⟩,
        ⟨(some 32), .bin .sub (.tmp 27) (.tmp 31), none⟩,
        ⟨(some 33), .iaddr 1 (.tmp 25) (.tmp 26), none⟩,
        ⟨none, .store 1 (.tmp 33) (.tmp 32), none⟩] [2, 8, 21, 22])))
   (.reg [
       ⟨(some 34), .bin .add (.tmp 22) (.const (.int .i64 1)), none⟩,
       ⟨(some 22), .mv (.tmp 34), none⟩] [2, 8, 21, 22])))))))
 (.seq (.reg [
     ⟨(some 35), .mv (.tmp 8), none⟩,
     ⟨(some 6), .mv (.tmp 35), none⟩,
     ⟨(some 7), .mv (.const (.int .i64 0)), none⟩] [6, 7])
 (.ret))))))
theorem s_impl_LeaveOf : stripF Try.prog 49 [[1, 2, 3], [1, 2, 3, 12], [6, 7], [2, 3, 17], [6, 7], [2, 8], [2, 8, 21, 22], [2, 8, 21, 22], [2, 8, 21, 22, 23], [2, 8, 9, 21, 22], [2, 8, 21, 22], [2, 8, 21, 22], [6, 7]] = some (c_impl_LeaveOf, [.tmp 6, .tmp 7], 36) := by kernel_rfl


def leaveV (v : Int) (xss : List (List Int)) (k lam : Int) : List Int × Int :=
  if !designB v xss then ([], 1) else if !packB v.toNat xss k lam then ([], 6) else ((pairsL v.toNat xss).map fun c => w64 (lam - c), 0)
theorem pairsL_len (n : Nat) (xss : List (List Int)) : (pairsL n xss).length ≤ n * n := pairsTo_len n xss n
theorem leaveV_len (v : Int) (xss : List (List Int)) (k lam : Int) (_h : xss.length ≤ 1073741824) : (leaveV v xss k lam).1.length ≤ 1073741824 := by
  unfold leaveV
  split
  · simp
  · rename_i h
    have hf := designB_facts (by simpa using h)
    split
    · simp
    · simp only [List.length_map]
      have h1 := pairsL_len v.toNat xss
      have h2 : v.toNat * v.toNat ≤ 32 * 32 := Nat.mul_le_mul (by omega) (by omega)
      omega

theorem subLoop (L : List Int) (f : Int → Int) (pre post : List Int) (x v : Int) : (pre.map f ++ x :: post).set pre.length v = (pre.map f ++ v :: post) := by
  rw [List.set_append_right _ _ (by simp)]; simp
theorem implLeaveOf_fs (v : Int) (xss : List (List Int)) (k lam : Int) (hx : ∀ xs ∈ xss, ∀ x ∈ xs, (Lit.int .i64 x).wf = true) : FS Try.prog f_impl_LeaveOf [.agg [I v, ilSS xss], I k, I lam] (leaveV v xss k lam).1 (leaveV v xss k lam).2 := by
  intro H
  have hv := ValidDesign_fn v xss
  by_cases hc : designB v xss = true
  · have hf := designB_facts hc
    obtain ⟨n, rfl⟩ := Int.eq_ofNat_of_zero_le (show 0 ≤ v by omega)
    have hp := isDesignPacking_fn n xss k lam (by omega) hf.2.2.2 hf.2.2.1
    have hcn := pairCounts_new n xss (by omega) hf.2.2.2 hf.2.2.1
    rw [hc] at hv
    by_cases hi : packB n xss k lam = true
    · rw [leaveV, hc, show (n : Int).toNat = n from rfl, hi]
      rw [hi] at hp
      generalize pairsL n xss = L at *
      refine ACalls.introB s_impl_LeaveOf (by simp) ?_; intro hB hA; unfold c_impl_LeaveOf; simp (config := { maxSteps := 1000000 }) (disch := (first | omega | (simp only [go_sem]; try omega))) only [go_sem, Nat.reduceAdd, Nat.reduceEqDiff, Nat.reduceLeDiff, Nat.reduceMul, Nat.reduceLT, reduceIte, Int.reduceToNat, w64_id, cast_succ]
      repeat (first | (with_reducible first | refine SW.seq ?_ | refine SW.block ?_ | refine SW.rowC ?_ | refine SW.skip ?_ | refine SW.exit ?_ | refine PFn.use (hv) ?_ | refine PFn.useq (hv) ?_ | intro _ | refine And.intro (by omega) ?_) | simp (config := { maxSteps := 1000000 }) (disch := (first | omega | (simp only [go_sem]; try omega))) only [go_sem, Nat.reduceAdd, Nat.reduceEqDiff, Nat.reduceLeDiff, Nat.reduceMul, Nat.reduceLT, reduceIte, Int.reduceToNat, w64_id, cast_succ])
      refine SW.condF rfl ?_
      repeat (first | (with_reducible first | refine SW.seq ?_ | refine SW.block ?_ | refine SW.rowC ?_ | refine SW.skip ?_ | refine SW.exit ?_ | refine PFn.use (hp) ?_ | refine PFn.useq (hp) ?_ | intro _ | refine And.intro (by omega) ?_) | simp (config := { maxSteps := 1000000 }) (disch := (first | omega | (simp only [go_sem]; try omega))) only [go_sem, Nat.reduceAdd, Nat.reduceEqDiff, Nat.reduceLeDiff, Nat.reduceMul, Nat.reduceLT, reduceIte, Int.reduceToNat, w64_id, cast_succ])
      refine SW.condF rfl ?_
      repeat (first | (with_reducible first | refine SW.seq ?_ | refine SW.block ?_ | refine SW.rowC ?_ | refine SW.skip ?_ | refine SW.exit ?_ | intro _ | refine And.intro (by omega) ?_) | simp (config := { maxSteps := 1000000 }) (disch := (first | omega | (simp only [go_sem]; try omega))) only [go_sem, Nat.reduceAdd, Nat.reduceEqDiff, Nat.reduceLeDiff, Nat.reduceMul, Nat.reduceLT, reduceIte, Int.reduceToNat, w64_id, cast_succ])
      refine (hcn _).mono ?_
      rintro r H1 ⟨rfl, rfl⟩
      repeat (first | (with_reducible first | refine SW.seq ?_ | refine SW.block ?_ | refine SW.rowC ?_ | refine SW.skip ?_ | refine SW.exit ?_ | intro _ | refine And.intro (by omega) ?_) | simp (config := { maxSteps := 1000000 }) (disch := (first | omega | (simp only [go_sem]; try omega))) only [go_sem, Nat.reduceAdd, Nat.reduceEqDiff, Nat.reduceLeDiff, Nat.reduceMul, Nat.reduceLT, reduceIte, Int.reduceToNat, w64_id, cast_succ])
      refine SW.loopE (fun E0 H0 q E' H' => ∃ (pre post : List Int), L = pre ++ post ∧ q = post.length ∧ E' = aput E0 22 (I pre.length) ∧ H' = H ++ [⟨0, tyD, 1, [I n, ilSS xss]⟩, ⟨0, 2, 1, (pre.map (fun c => w64 (lam - c)) ++ post).map I⟩]) L.length ⟨[], L, rfl, rfl, rfl, rfl⟩ ?_
      rintro q E' H' ⟨pre, post, hq, rfl, rfl, rfl⟩
      simp (config := { maxSteps := 1000000 }) (disch := (first | omega | (simp only [go_sem]; try omega))) only [go_sem, Nat.reduceAdd, Nat.reduceEqDiff, Nat.reduceLeDiff, Nat.reduceMul, Nat.reduceLT, reduceIte, Int.reduceToNat, w64_id, cast_succ]
      repeat (first | (with_reducible first | refine SW.seq ?_ | refine SW.block ?_ | refine SW.rowC ?_ | refine SW.skip ?_ | refine SW.exit ?_ | intro _ | refine And.intro (by omega) ?_) | simp (config := { maxSteps := 1000000 }) (disch := (first | omega | (simp only [go_sem]; try omega))) only [go_sem, Nat.reduceAdd, Nat.reduceEqDiff, Nat.reduceLeDiff, Nat.reduceMul, Nat.reduceLT, reduceIte, Int.reduceToNat, w64_id, cast_succ])
      (first | refine SW.condD rfl (fun h2 => ?_) (fun h2 => ?_) | refine SW.condN rfl (fun h2 => ?_) (fun h2 => ?_) | refine SW.condNB rfl (fun h2 => ?_) (fun h2 => ?_) | refine SW.condB rfl (fun h2 => ?_) (fun h2 => ?_))
      · obtain ⟨x, post, rfl, hg, -⟩ := consOf (d := 0) hq (by omega)
        have g1 : (pre.map (fun c => w64 (lam - c)) ++ x :: post).getD pre.length 0 = x := by simp [List.getD_eq_getElem?_getD]
        have g2 := fun v => subLoop L (fun c => w64 (lam - c)) pre post x v
        have g3 : (pre.map (fun c => w64 (lam - c)) ++ x :: post).length = L.length := by rw [hq]; simp
        have g4 : ((pre.map (fun c => w64 (lam - c)) ++ x :: post).map I).take L.length = (pre.map (fun c => w64 (lam - c)) ++ x :: post).map I := List.take_of_length_le (by simp [hq])
        repeat (first | (with_reducible first | refine SW.seq ?_ | refine SW.block ?_ | refine SW.rowC ?_ | refine SW.skip ?_ | refine SW.exit ?_ | intro _ | refine And.intro (by omega) ?_) | simp (config := { maxSteps := 1000000 }) (disch := (first | omega | (simp only [go_sem]; try omega))) only [go_sem, Nat.reduceAdd, Nat.reduceEqDiff, Nat.reduceLeDiff, Nat.reduceMul, Nat.reduceLT, reduceIte, Int.reduceToNat, w64_id, cast_succ, g1, g2, g4])
        refine SLoop.next post.length (by simp) ⟨pre ++ [x], post, by simp [hq], rfl, ?_, ?_⟩
        · simp [go_sem]
        · simp
      · obtain ⟨rfl, rfl⟩ := nilOf hq (by omega)
        repeat (first | (with_reducible first | refine SW.seq ?_ | refine SW.block ?_ | refine SW.rowC ?_ | refine SW.skip ?_ | refine SW.exit ?_ | intro _ | refine And.intro (by omega) ?_) | simp (config := { maxSteps := 1000000 }) (disch := (first | omega | (simp only [go_sem]; try omega))) only [go_sem, Nat.reduceAdd, Nat.reduceEqDiff, Nat.reduceLeDiff, Nat.reduceMul, Nat.reduceLT, reduceIte, Int.reduceToNat, w64_id, cast_succ])
        refine SW.ret ?_; (try simp only [go_sem]); (first | refine FunPost.one ?_ | refine FunPost.two ?_ | refine FunPost.three ?_); (try simp (config := { maxSteps := 1000000 }) (disch := (first | omega | (simp only [go_sem]; try omega))) only [go_sem, Nat.reduceAdd, Nat.reduceEqDiff, Nat.reduceLeDiff, Nat.reduceMul, Nat.reduceLT, reduceIte, Int.reduceToNat, w64_id, cast_succ])
        exact GR.of ⟨_, _, _, rfl, rfl, .inl ⟨H.length + 1, 0, 2, by simp, ⟨by omega, by simp⟩, by simp, by simp⟩, rfl⟩
    · rw [Bool.not_eq_true] at hi
      rw [leaveV, hc, show (n : Int).toNat = n from rfl, hi]
      rw [hi] at hp
      refine ACalls.introB s_impl_LeaveOf (by simp) ?_; intro hB hA; unfold c_impl_LeaveOf; simp (config := { maxSteps := 1000000 }) (disch := (first | omega | (simp only [go_sem]; try omega))) only [go_sem, Nat.reduceAdd, Nat.reduceEqDiff, Nat.reduceLeDiff, Nat.reduceMul, Nat.reduceLT, reduceIte, Int.reduceToNat, w64_id, cast_succ]
      repeat (first | (with_reducible first | refine SW.seq ?_ | refine SW.block ?_ | refine SW.rowC ?_ | refine SW.skip ?_ | refine SW.exit ?_ | refine PFn.use (hv) ?_ | refine PFn.useq (hv) ?_ | intro _ | refine And.intro (by omega) ?_) | simp (config := { maxSteps := 1000000 }) (disch := (first | omega | (simp only [go_sem]; try omega))) only [go_sem, Nat.reduceAdd, Nat.reduceEqDiff, Nat.reduceLeDiff, Nat.reduceMul, Nat.reduceLT, reduceIte, Int.reduceToNat, w64_id, cast_succ])
      refine SW.condF rfl ?_
      repeat (first | (with_reducible first | refine SW.seq ?_ | refine SW.block ?_ | refine SW.rowC ?_ | refine SW.skip ?_ | refine SW.exit ?_ | refine PFn.use (hp) ?_ | refine PFn.useq (hp) ?_ | intro _ | refine And.intro (by omega) ?_) | simp (config := { maxSteps := 1000000 }) (disch := (first | omega | (simp only [go_sem]; try omega))) only [go_sem, Nat.reduceAdd, Nat.reduceEqDiff, Nat.reduceLeDiff, Nat.reduceMul, Nat.reduceLT, reduceIte, Int.reduceToNat, w64_id, cast_succ])
      refine SW.condT rfl ?_
      repeat (first | (with_reducible first | refine SW.seq ?_ | refine SW.block ?_ | refine SW.rowC ?_ | refine SW.skip ?_ | refine SW.exit ?_ | intro _ | refine And.intro (by omega) ?_) | simp (config := { maxSteps := 1000000 }) (disch := (first | omega | (simp only [go_sem]; try omega))) only [go_sem, Nat.reduceAdd, Nat.reduceEqDiff, Nat.reduceLeDiff, Nat.reduceMul, Nat.reduceLT, reduceIte, Int.reduceToNat, w64_id, cast_succ])
      refine SW.ret ?_; (try simp only [go_sem]); (first | refine FunPost.one ?_ | refine FunPost.two ?_ | refine FunPost.three ?_); (try simp (config := { maxSteps := 1000000 }) (disch := (first | omega | (simp only [go_sem]; try omega))) only [go_sem, Nat.reduceAdd, Nat.reduceEqDiff, Nat.reduceLeDiff, Nat.reduceMul, Nat.reduceLT, reduceIte, Int.reduceToNat, w64_id, cast_succ])
      exact GR.of nilFS1
  · rw [Bool.not_eq_true] at hc
    rw [hc] at hv
    rw [leaveV, hc]
    refine ACalls.introB s_impl_LeaveOf (by simp) ?_; intro hB hA; unfold c_impl_LeaveOf; simp (config := { maxSteps := 1000000 }) (disch := (first | omega | (simp only [go_sem]; try omega))) only [go_sem, Nat.reduceAdd, Nat.reduceEqDiff, Nat.reduceLeDiff, Nat.reduceMul, Nat.reduceLT, reduceIte, Int.reduceToNat, w64_id, cast_succ]
    repeat (first | (with_reducible first | refine SW.seq ?_ | refine SW.block ?_ | refine SW.rowC ?_ | refine SW.skip ?_ | refine SW.exit ?_ | refine PFn.use (hv) ?_ | refine PFn.useq (hv) ?_ | intro _ | refine And.intro (by omega) ?_) | simp (config := { maxSteps := 1000000 }) (disch := (first | omega | (simp only [go_sem]; try omega))) only [go_sem, Nat.reduceAdd, Nat.reduceEqDiff, Nat.reduceLeDiff, Nat.reduceMul, Nat.reduceLT, reduceIte, Int.reduceToNat, w64_id, cast_succ])
    refine SW.condT rfl ?_
    repeat (first | (with_reducible first | refine SW.seq ?_ | refine SW.block ?_ | refine SW.rowC ?_ | refine SW.skip ?_ | refine SW.exit ?_ | intro _ | refine And.intro (by omega) ?_) | simp (config := { maxSteps := 1000000 }) (disch := (first | omega | (simp only [go_sem]; try omega))) only [go_sem, Nat.reduceAdd, Nat.reduceEqDiff, Nat.reduceLeDiff, Nat.reduceMul, Nat.reduceLT, reduceIte, Int.reduceToNat, w64_id, cast_succ])
    refine SW.ret ?_; (try simp only [go_sem]); (first | refine FunPost.one ?_ | refine FunPost.two ?_ | refine FunPost.three ?_); (try simp (config := { maxSteps := 1000000 }) (disch := (first | omega | (simp only [go_sem]; try omega))) only [go_sem, Nat.reduceAdd, Nat.reduceEqDiff, Nat.reduceLeDiff, Nat.reduceMul, Nat.reduceLT, reduceIte, Int.reduceToNat, w64_id, cast_succ])
    exact GR.of nilFS1

theorem specLeaveOf_fn (v : Int) (xss : List (List Int)) (k lam : Int) (hx : ∀ xs ∈ xss, ∀ x ∈ xs, (Lit.int .i64 x).wf = true) : PFn Try.prog f_spec_LeaveOf [.agg [I v, ilSS xss], I k, I lam] (.tup [ilS (leaveV v xss k lam).1, I (leaveV v xss k lam).2]) := by
  intro H
  refine ACalls.introB s_spec_LeaveOf (by simp) ?_; intro hB hA; unfold c_spec_LeaveOf; simp (config := { maxSteps := 1000000 }) (disch := (first | omega | (simp only [go_sem]; try omega))) only [go_sem, Nat.reduceAdd, Nat.reduceEqDiff, Nat.reduceLeDiff, Nat.reduceMul, Nat.reduceLT, reduceIte, Int.reduceToNat, w64_id, cast_succ]
  repeat (first | (with_reducible first | refine SW.seq ?_ | refine SW.block ?_ | refine SW.rowC ?_ | refine SW.skip ?_ | refine SW.exit ?_ | intro _ | refine And.intro (by omega) ?_) | simp (config := { maxSteps := 1000000 }) (disch := (first | omega | (simp only [go_sem]; try omega))) only [go_sem, Nat.reduceAdd, Nat.reduceEqDiff, Nat.reduceLeDiff, Nat.reduceMul, Nat.reduceLT, reduceIte, Int.reduceToNat, w64_id, cast_succ])
  refine ACalls.fn (l10Ok_ok _ H.length 0 v xss hx (by simp)) ?_
  by_cases hc : designB v xss = true
  · have hf := designB_facts hc
    obtain ⟨n, rfl⟩ := Int.eq_ofNat_of_zero_le (show 0 ≤ v by omega)
    rw [hc]
    repeat (first | (with_reducible first | refine SW.seq ?_ | refine SW.block ?_ | refine SW.rowC ?_ | refine SW.skip ?_ | refine SW.exit ?_ | intro _ | refine And.intro (by omega) ?_) | simp (config := { maxSteps := 1000000 }) (disch := (first | omega | (simp only [go_sem]; try omega))) only [go_sem, Nat.reduceAdd, Nat.reduceEqDiff, Nat.reduceLeDiff, Nat.reduceMul, Nat.reduceLT, reduceIte, Int.reduceToNat, w64_id, cast_succ])
    refine SW.condF rfl ?_
    repeat (first | (with_reducible first | refine SW.seq ?_ | refine SW.block ?_ | refine SW.rowC ?_ | refine SW.skip ?_ | refine SW.exit ?_ | intro _ | refine And.intro (by omega) ?_) | simp (config := { maxSteps := 1000000 }) (disch := (first | omega | (simp only [go_sem]; try omega))) only [go_sem, Nat.reduceAdd, Nat.reduceEqDiff, Nat.reduceLeDiff, Nat.reduceMul, Nat.reduceLT, reduceIte, Int.reduceToNat, w64_id, cast_succ])
    refine ACalls.fn (l28Packing_ok _ H.length n xss k lam hx (by simp)) ?_
    by_cases hi : packB n xss k lam = true
    · rw [leaveV, hc, show (n : Int).toNat = n from rfl, hi]
      have hcn := l10Pairs_new n xss (by omega) (by omega) (H ++ [⟨0, tyD, 1, [I n, ilSS xss]⟩]) H.length (by simp)
      generalize pairsL n xss = L at *
      repeat (first | (with_reducible first | refine SW.seq ?_ | refine SW.block ?_ | refine SW.rowC ?_ | refine SW.skip ?_ | refine SW.exit ?_ | intro _ | refine And.intro (by omega) ?_) | simp (config := { maxSteps := 1000000 }) (disch := (first | omega | (simp only [go_sem]; try omega))) only [go_sem, Nat.reduceAdd, Nat.reduceEqDiff, Nat.reduceLeDiff, Nat.reduceMul, Nat.reduceLT, reduceIte, Int.reduceToNat, w64_id, cast_succ])
      refine SW.condF rfl ?_
      repeat (first | (with_reducible first | refine SW.seq ?_ | refine SW.block ?_ | refine SW.rowC ?_ | refine SW.skip ?_ | refine SW.exit ?_ | intro _ | refine And.intro (by omega) ?_) | simp (config := { maxSteps := 1000000 }) (disch := (first | omega | (simp only [go_sem]; try omega))) only [go_sem, Nat.reduceAdd, Nat.reduceEqDiff, Nat.reduceLeDiff, Nat.reduceMul, Nat.reduceLT, reduceIte, Int.reduceToNat, w64_id, cast_succ])
      refine hcn.mono ?_
      rintro r H1 ⟨rfl, rfl⟩
      repeat (first | (with_reducible first | refine SW.seq ?_ | refine SW.block ?_ | refine SW.rowC ?_ | refine SW.skip ?_ | refine SW.exit ?_ | intro _ | refine And.intro (by omega) ?_) | simp (config := { maxSteps := 1000000 }) (disch := (first | omega | (simp only [go_sem]; try omega))) only [go_sem, Nat.reduceAdd, Nat.reduceEqDiff, Nat.reduceLeDiff, Nat.reduceMul, Nat.reduceLT, reduceIte, Int.reduceToNat, w64_id, cast_succ])
      refine SW.loopE (fun E0 H0 q E' H' => ∃ (pre post : List Int), L = pre ++ post ∧ q = post.length ∧ E' = aput E0 9 (I pre.length) ∧ H' = H ++ [⟨0, tyD, 1, [I n, ilSS xss]⟩, ⟨0, 2, 1, (pre.map (fun c => w64 (lam - c)) ++ post).map I⟩]) L.length ⟨[], L, rfl, rfl, rfl, rfl⟩ ?_
      rintro q E' H' ⟨pre, post, hq, rfl, rfl, rfl⟩
      simp (config := { maxSteps := 1000000 }) (disch := (first | omega | (simp only [go_sem]; try omega))) only [go_sem, Nat.reduceAdd, Nat.reduceEqDiff, Nat.reduceLeDiff, Nat.reduceMul, Nat.reduceLT, reduceIte, Int.reduceToNat, w64_id, cast_succ]
      have g3 : (pre.map (fun c => w64 (lam - c)) ++ post).length = L.length := by rw [hq]; simp
      have g4 : ((pre.map (fun c => w64 (lam - c)) ++ post).map I).take L.length = (pre.map (fun c => w64 (lam - c)) ++ post).map I := List.take_of_length_le (by simp [hq])
      repeat (first | (with_reducible first | refine SW.seq ?_ | refine SW.block ?_ | refine SW.rowC ?_ | refine SW.skip ?_ | refine SW.exit ?_ | intro _ | refine And.intro (by omega) ?_) | simp (config := { maxSteps := 1000000 }) (disch := (first | omega | (simp only [go_sem]; try omega))) only [go_sem, Nat.reduceAdd, Nat.reduceEqDiff, Nat.reduceLeDiff, Nat.reduceMul, Nat.reduceLT, reduceIte, Int.reduceToNat, w64_id, cast_succ, g4])
      (first | refine SW.condD rfl (fun h2 => ?_) (fun h2 => ?_) | refine SW.condN rfl (fun h2 => ?_) (fun h2 => ?_) | refine SW.condNB rfl (fun h2 => ?_) (fun h2 => ?_) | refine SW.condB rfl (fun h2 => ?_) (fun h2 => ?_))
      · obtain ⟨x, post, rfl, hg, -⟩ := consOf (d := 0) hq (by omega)
        have g1 : (pre.map (fun c => w64 (lam - c)) ++ x :: post).getD pre.length 0 = x := by simp [List.getD_eq_getElem?_getD]
        have g2 := fun v => subLoop L (fun c => w64 (lam - c)) pre post x v
        repeat (first | (with_reducible first | refine SW.seq ?_ | refine SW.block ?_ | refine SW.rowC ?_ | refine SW.skip ?_ | refine SW.exit ?_ | intro _ | refine And.intro (by omega) ?_) | simp (config := { maxSteps := 1000000 }) (disch := (first | omega | (simp only [go_sem]; try omega))) only [go_sem, Nat.reduceAdd, Nat.reduceEqDiff, Nat.reduceLeDiff, Nat.reduceMul, Nat.reduceLT, reduceIte, Int.reduceToNat, w64_id, cast_succ, g1, g2, g4])
        refine SLoop.next post.length (by simp) ⟨pre ++ [x], post, by simp [hq], rfl, ?_, ?_⟩
        · simp [go_sem]
        · simp
      · obtain ⟨rfl, rfl⟩ := nilOf hq (by omega)
        repeat (first | (with_reducible first | refine SW.seq ?_ | refine SW.block ?_ | refine SW.rowC ?_ | refine SW.skip ?_ | refine SW.exit ?_ | intro _ | refine And.intro (by omega) ?_) | simp (config := { maxSteps := 1000000 }) (disch := (first | omega | (simp only [go_sem]; try omega))) only [go_sem, Nat.reduceAdd, Nat.reduceEqDiff, Nat.reduceLeDiff, Nat.reduceMul, Nat.reduceLT, reduceIte, Int.reduceToNat, w64_id, cast_succ])
        refine SW.ret ?_; (try simp only [go_sem]); (first | refine FunPost.one ?_ | refine FunPost.two ?_ | refine FunPost.three ?_); (try simp (config := { maxSteps := 1000000 }) (disch := (first | omega | (simp only [go_sem]; try omega))) only [go_sem, Nat.reduceAdd, Nat.reduceEqDiff, Nat.reduceLeDiff, Nat.reduceMul, Nat.reduceLT, reduceIte, Int.reduceToNat, w64_id, cast_succ])
        have e : (pre.map (fun c => w64 (lam - c))).length = pre.length := by simp
        have := @froz_rowI (H ++ [⟨0, tyD, 1, [I n, ilSS xss]⟩, ⟨0, 2, 1, (pre.map fun c => w64 (lam - c)).map I⟩]) H.length (H.length + 1) 0 2 (pre.map fun c => w64 (lam - c)) (by omega) (by simp)
        rw [e] at this
        exact GR.froz (froz_tup2 (by simpa using this) (froz_I' _)) ⟨rfl, rfl⟩
    · rw [Bool.not_eq_true] at hi
      rw [leaveV, hc, show (n : Int).toNat = n from rfl, hi]
      repeat (first | (with_reducible first | refine SW.seq ?_ | refine SW.block ?_ | refine SW.rowC ?_ | refine SW.skip ?_ | refine SW.exit ?_ | intro _ | refine And.intro (by omega) ?_) | simp (config := { maxSteps := 1000000 }) (disch := (first | omega | (simp only [go_sem]; try omega))) only [go_sem, Nat.reduceAdd, Nat.reduceEqDiff, Nat.reduceLeDiff, Nat.reduceMul, Nat.reduceLT, reduceIte, Int.reduceToNat, w64_id, cast_succ])
      refine SW.condT rfl ?_
      repeat (first | (with_reducible first | refine SW.seq ?_ | refine SW.block ?_ | refine SW.rowC ?_ | refine SW.skip ?_ | refine SW.exit ?_ | intro _ | refine And.intro (by omega) ?_) | simp (config := { maxSteps := 1000000 }) (disch := (first | omega | (simp only [go_sem]; try omega))) only [go_sem, Nat.reduceAdd, Nat.reduceEqDiff, Nat.reduceLeDiff, Nat.reduceMul, Nat.reduceLT, reduceIte, Int.reduceToNat, w64_id, cast_succ])
      refine SW.ret ?_; (try simp only [go_sem]); (first | refine FunPost.one ?_ | refine FunPost.two ?_ | refine FunPost.three ?_); (try simp (config := { maxSteps := 1000000 }) (disch := (first | omega | (simp only [go_sem]; try omega))) only [go_sem, Nat.reduceAdd, Nat.reduceEqDiff, Nat.reduceLeDiff, Nat.reduceMul, Nat.reduceLT, reduceIte, Int.reduceToNat, w64_id, cast_succ])
      exact GR.froz (froz_tup2 .nil (froz_I' _)) ⟨rfl, rfl⟩
  · rw [Bool.not_eq_true] at hc
    rw [leaveV, hc]
    repeat (first | (with_reducible first | refine SW.seq ?_ | refine SW.block ?_ | refine SW.rowC ?_ | refine SW.skip ?_ | refine SW.exit ?_ | intro _ | refine And.intro (by omega) ?_) | simp (config := { maxSteps := 1000000 }) (disch := (first | omega | (simp only [go_sem]; try omega))) only [go_sem, Nat.reduceAdd, Nat.reduceEqDiff, Nat.reduceLeDiff, Nat.reduceMul, Nat.reduceLT, reduceIte, Int.reduceToNat, w64_id, cast_succ])
    refine SW.condT rfl ?_
    repeat (first | (with_reducible first | refine SW.seq ?_ | refine SW.block ?_ | refine SW.rowC ?_ | refine SW.skip ?_ | refine SW.exit ?_ | intro _ | refine And.intro (by omega) ?_) | simp (config := { maxSteps := 1000000 }) (disch := (first | omega | (simp only [go_sem]; try omega))) only [go_sem, Nat.reduceAdd, Nat.reduceEqDiff, Nat.reduceLeDiff, Nat.reduceMul, Nat.reduceLT, reduceIte, Int.reduceToNat, w64_id, cast_succ])
    refine SW.ret ?_; (try simp only [go_sem]); (first | refine FunPost.one ?_ | refine FunPost.two ?_ | refine FunPost.three ?_); (try simp (config := { maxSteps := 1000000 }) (disch := (first | omega | (simp only [go_sem]; try omega))) only [go_sem, Nat.reduceAdd, Nat.reduceEqDiff, Nat.reduceLeDiff, Nat.reduceMul, Nat.reduceLT, reduceIte, Int.reduceToNat, w64_id, cast_succ])
    exact GR.froz (froz_tup2 .nil (froz_I' _)) ⟨rfl, rfl⟩

theorem lawLeaveOf_ok (H : List Blk) (n : Int) (xss : List (List Int)) (k lam : Int) (hx : ∀ xs ∈ xss, ∀ x ∈ xs, (Lit.int .i64 x).wf = true) : ACalls Try.prog f_laws_FnExactLeaveOf [.agg [I n, ilSS xss], I k, I lam] H (fun r _ => r = Bv true) := by
  have hs := specLeaveOf_fn n xss k lam hx
  have hi := implLeaveOf_fs n xss k lam hx
  have hlen := leaveV_len n xss k lam
  generalize (leaveV n xss k lam).1 = zs at *
  generalize (leaveV n xss k lam).2 = code at *
  refine ACalls.introB s_laws_FnExactLeaveOf (by simp) ?_; intro hB hA; unfold c_laws_FnExactLeaveOf; simp (config := { maxSteps := 1000000 }) (disch := (first | omega | (simp only [go_sem]; try omega))) only [go_sem, Nat.reduceAdd, Nat.reduceEqDiff, Nat.reduceLeDiff, Nat.reduceMul, Nat.reduceLT, reduceIte, Int.reduceToNat, w64_id, cast_succ]
  repeat (first | (with_reducible first | refine SW.seq ?_ | refine SW.block ?_ | refine SW.rowC ?_ | refine SW.skip ?_ | refine SW.exit ?_ | intro _ | refine And.intro (by omega) ?_) | simp (config := { maxSteps := 1000000 }) (disch := (first | omega | (simp only [go_sem]; try omega))) only [go_sem, Nat.reduceAdd, Nat.reduceEqDiff, Nat.reduceLeDiff, Nat.reduceMul, Nat.reduceLT, reduceIte, Int.reduceToNat, w64_id, cast_succ])
  refine (szDesign_ok _ n _ xss _ rfl (rd_ilSS _ _) (by omega) (by omega)).mono ?_
  rintro r H' ⟨⟨z, rfl, g1, g2, g3⟩, rfl⟩
  repeat (first | (with_reducible first | refine SW.seq ?_ | refine SW.block ?_ | refine SW.rowC ?_ | refine SW.skip ?_ | refine SW.exit ?_ | intro _ | refine And.intro (by omega) ?_) | simp (config := { maxSteps := 1000000 }) (disch := (first | omega | (simp only [go_sem]; try omega))) only [go_sem, Nat.reduceAdd, Nat.reduceEqDiff, Nat.reduceLeDiff, Nat.reduceMul, Nat.reduceLT, reduceIte, Int.reduceToNat, w64_id, cast_succ])
  (first | refine SW.condD rfl (fun h2 => ?_) (fun h2 => ?_) | refine SW.condN rfl (fun h2 => ?_) (fun h2 => ?_) | refine SW.condNB rfl (fun h2 => ?_) (fun h2 => ?_) | refine SW.condB rfl (fun h2 => ?_) (fun h2 => ?_))
  · repeat (first | (with_reducible first | refine SW.seq ?_ | refine SW.block ?_ | refine SW.rowC ?_ | refine SW.skip ?_ | refine SW.exit ?_ | intro _ | refine And.intro (by omega) ?_) | simp (config := { maxSteps := 1000000 }) (disch := (first | omega | (simp only [go_sem]; try omega))) only [go_sem, Nat.reduceAdd, Nat.reduceEqDiff, Nat.reduceLeDiff, Nat.reduceMul, Nat.reduceLT, reduceIte, Int.reduceToNat, w64_id, cast_succ])
    refine SW.ret ?_; (try simp only [go_sem]); (first | refine FunPost.one ?_ | refine FunPost.two ?_ | refine FunPost.three ?_); (try simp (config := { maxSteps := 1000000 }) (disch := (first | omega | (simp only [go_sem]; try omega))) only [go_sem, Nat.reduceAdd, Nat.reduceEqDiff, Nat.reduceLeDiff, Nat.reduceMul, Nat.reduceLT, reduceIte, Int.reduceToNat, w64_id, cast_succ])
    exact GR.of rfl
  have hsx := small_rows (by omega) (g3 (by omega)) (by omega)
  have t1 := toDesign_fn n xss hsx.1 hsx.2
  replace hlen := hlen hsx.1
  have htot : total xss ≤ 1073741824 := by have := g3 (by omega); omega
  repeat (first | (with_reducible first | refine SW.seq ?_ | refine SW.block ?_ | refine SW.rowC ?_ | refine SW.skip ?_ | refine SW.exit ?_ | intro _ | refine And.intro (by omega) ?_) | simp (config := { maxSteps := 1000000 }) (disch := (first | omega | (simp only [go_sem]; try omega))) only [go_sem, Nat.reduceAdd, Nat.reduceEqDiff, Nat.reduceLeDiff, Nat.reduceMul, Nat.reduceLT, reduceIte, Int.reduceToNat, w64_id, cast_succ])
  refine ACalls.fn (t1 _) ?_
  repeat (first | (with_reducible first | refine SW.seq ?_ | refine SW.block ?_ | refine SW.rowC ?_ | refine SW.skip ?_ | refine SW.exit ?_ | refine PFn.use (hs) ?_ | refine PFn.useq (hs) ?_ | intro _ | refine And.intro (by omega) ?_) | simp (config := { maxSteps := 1000000 }) (disch := (first | omega | (simp only [go_sem]; try omega))) only [go_sem, Nat.reduceAdd, Nat.reduceEqDiff, Nat.reduceLeDiff, Nat.reduceMul, Nat.reduceLT, reduceIte, Int.reduceToNat, w64_id, cast_succ])
  refine (toDesign_ok _ n _ xss rfl (rd_ilSS _ _) hsx.1 hsx.2).mono ?_
  rintro r H1 ⟨ext, v, hH1, rfl, own⟩
  have pw := get_appU (show (H ++ [(⟨0, 45, 1, [I n, ilSS xss]⟩ : Blk)])[H.length]? = some ⟨0, 45, 1, [I n, ilSS xss]⟩ by simp) ext
  rw [← hH1] at pw
  have hb : (H ++ [(⟨0, 45, 1, [I n, ilSS xss]⟩ : Blk)]).length = H.length + 1 := by simp
  rw [hb] at own
  have hlt : H.length < H1.length := (List.getElem?_eq_some_iff.1 pw).1
  clear hH1 hb
  repeat (first | (with_reducible first | refine SW.seq ?_ | refine SW.block ?_ | refine SW.rowC ?_ | refine SW.skip ?_ | refine SW.exit ?_ | intro _ | refine And.intro (by omega) ?_) | simp (config := { maxSteps := 1000000 }) (disch := (first | omega | (simp only [go_sem]; try omega))) only [go_sem, Nat.reduceAdd, Nat.reduceEqDiff, Nat.reduceLeDiff, Nat.reduceMul, Nat.reduceLT, reduceIte, Int.reduceToNat, w64_id, cast_succ, own.one.1, own.one.2])
  have pg : (H1 ++ [(⟨0, 48, 1, [I n, v]⟩ : Blk)])[H1.length]? = some ⟨0, 48, 1, [I n, v]⟩ := by simp
  replace pw := get_appU pw [(⟨0, 48, 1, [I n, v]⟩ : Blk)]
  replace own := own.append [(⟨0, 48, 1, [I n, v]⟩ : Blk)]
  generalize hg : H1.length = g at *
  have hgl : g < (H1 ++ [(⟨0, 48, 1, [I n, v]⟩ : Blk)]).length := (List.getElem?_eq_some_iff.1 pg).1
  generalize H1 ++ [(⟨0, 48, 1, [I n, v]⟩ : Blk)] = H2 at *
  refine (hi.lend (.cons (froz_agg2 (froz_I' _) (own.froz (fun r _ => Nat.zero_le _))) (.cons (froz_I' _) (.cons (froz_I' _) .nil)))).mono ?_
  rintro r H3 ⟨ext2, u, t, hH3, rfl, ho, ht⟩
  replace pw := get_appU pw ext2
  replace pg := get_appU pg ext2
  replace own := own.append ext2
  rw [← hH3] at pw pg own
  clear hH3
  repeat (first | (with_reducible first | refine SW.seq ?_ | refine SW.block ?_ | refine SW.rowC ?_ | refine SW.skip ?_ | refine SW.exit ?_ | intro _ | refine And.intro (by omega) ?_) | simp (config := { maxSteps := 1000000 }) (disch := (first | omega | (simp only [go_sem]; try omega))) only [go_sem, Nat.reduceAdd, Nat.reduceEqDiff, Nat.reduceLeDiff, Nat.reduceMul, Nat.reduceLT, reduceIte, Int.reduceToNat, w64_id, cast_succ])
  refine ACalls.fn (eqInt64S_ok _ _ _ _ _ ho.rd (rd_ilS _ _)) ?_
  repeat (first | (with_reducible first | refine SW.seq ?_ | refine SW.block ?_ | refine SW.rowC ?_ | refine SW.skip ?_ | refine SW.exit ?_ | intro _ | refine And.intro (by omega) ?_) | simp (config := { maxSteps := 1000000 }) (disch := (first | omega | (simp only [go_sem]; try omega))) only [go_sem, Nat.reduceAdd, Nat.reduceEqDiff, Nat.reduceLeDiff, Nat.reduceMul, Nat.reduceLT, reduceIte, Int.reduceToNat, w64_id, cast_succ])
  refine SW.condF rfl ?_
  repeat (first | (with_reducible first | refine SW.seq ?_ | refine SW.block ?_ | refine SW.rowC ?_ | refine SW.skip ?_ | refine SW.exit ?_ | refine PFn.use (t1) ?_ | refine PFn.useq (t1) ?_ | intro _ | refine And.intro (by omega) ?_) | simp (config := { maxSteps := 1000000 }) (disch := (first | omega | (simp only [go_sem]; try omega))) only [go_sem, Nat.reduceAdd, Nat.reduceEqDiff, Nat.reduceLeDiff, Nat.reduceMul, Nat.reduceLT, reduceIte, Int.reduceToNat, w64_id, cast_succ, pc_lds pg, pc_lds pw, own.one.1, own.one.2])
  refine QcallW.of (fun ext => eqDesign_ok _ n n v (ilSS xss) xss xss own.one.1 rfl (own.append ext).rd (rd_ilSS _ _)) ?_
  rw [show (decide (n = n) && decide (xss = xss)) = true by simp]
  repeat (first | (with_reducible first | refine SW.seq ?_ | refine SW.block ?_ | refine SW.rowC ?_ | refine SW.skip ?_ | refine SW.exit ?_ | intro _ | refine And.intro (by omega) ?_) | simp (config := { maxSteps := 1000000 }) (disch := (first | omega | (simp only [go_sem]; try omega))) only [go_sem, Nat.reduceAdd, Nat.reduceEqDiff, Nat.reduceLeDiff, Nat.reduceMul, Nat.reduceLT, reduceIte, Int.reduceToNat, w64_id, cast_succ])
  refine SW.condF rfl ?_
  repeat (first | (with_reducible first | refine SW.seq ?_ | refine SW.block ?_ | refine SW.rowC ?_ | refine SW.skip ?_ | refine SW.exit ?_ | intro _ | refine And.intro (by omega) ?_) | simp (config := { maxSteps := 1000000 }) (disch := (first | omega | (simp only [go_sem]; try omega))) only [go_sem, Nat.reduceAdd, Nat.reduceEqDiff, Nat.reduceLeDiff, Nat.reduceMul, Nat.reduceLT, reduceIte, Int.reduceToNat, w64_id, cast_succ, pc_lds pg, pc_lds pw, own.one.1, own.one.2])
  refine (markDesign_ok _ _ n 1 v xss own.one.1 own (by omega) (by omega)).mono ?_
  rintro r H4 ⟨rfl, -, m1, m2⟩
  have hlt3 := (List.getElem?_eq_some_iff.1 pg).1
  replace pw := (m2 H.length (by unfold Btw; omega) (by omega)).trans pw
  replace ho := ho.same (H' := H4) (fun j b hj _ hb => by rw [m2 j (by unfold Btw at hj ⊢; omega) (by unfold Btw at hj; omega)]; exact hb)
  have hneg1 : decide ((1 : Int) + total xss < 0) = false := decide_eq_false (by omega)
  have hneg2 : decide ((1 : Int) + zs.length < 0) = false := decide_eq_false (by omega)
  repeat (first | (with_reducible first | refine SW.seq ?_ | refine SW.block ?_ | refine SW.rowC ?_ | refine SW.skip ?_ | refine SW.exit ?_ | intro _ | refine And.intro (by omega) ?_) | simp (config := { maxSteps := 1000000 }) (disch := (first | omega | (simp only [go_sem]; try omega))) only [go_sem, Nat.reduceAdd, Nat.reduceEqDiff, Nat.reduceLeDiff, Nat.reduceMul, Nat.reduceLT, reduceIte, Int.reduceToNat, w64_id, cast_succ, hneg1])
  refine ACalls.fn (eqInt64S_ok _ _ _ _ _ ho.rd (rd_ilS _ _)) ?_
  repeat (first | (with_reducible first | refine SW.seq ?_ | refine SW.block ?_ | refine SW.rowC ?_ | refine SW.skip ?_ | refine SW.exit ?_ | intro _ | refine And.intro (by omega) ?_) | simp (config := { maxSteps := 1000000 }) (disch := (first | omega | (simp only [go_sem]; try omega))) only [go_sem, Nat.reduceAdd, Nat.reduceEqDiff, Nat.reduceLeDiff, Nat.reduceMul, Nat.reduceLT, reduceIte, Int.reduceToNat, w64_id, cast_succ])
  refine SW.condF rfl ?_
  repeat (first | (with_reducible first | refine SW.seq ?_ | refine SW.block ?_ | refine SW.rowC ?_ | refine SW.skip ?_ | refine SW.exit ?_ | intro _ | refine And.intro (by omega) ?_) | simp (config := { maxSteps := 1000000 }) (disch := (first | omega | (simp only [go_sem]; try omega))) only [go_sem, Nat.reduceAdd, Nat.reduceEqDiff, Nat.reduceLeDiff, Nat.reduceMul, Nat.reduceLT, reduceIte, Int.reduceToNat, w64_id, cast_succ])
  refine (markS_ok _ _ _ _ _ 1 ho (by omega) (by omega)).mono ?_
  rintro r H5 ⟨rfl, ho5, n1, n2⟩
  replace pw := (n2 H.length (by unfold Btw; omega)).trans pw
  repeat (first | (with_reducible first | refine SW.seq ?_ | refine SW.block ?_ | refine SW.rowC ?_ | refine SW.skip ?_ | refine SW.exit ?_ | intro _ | refine And.intro (by omega) ?_) | simp (config := { maxSteps := 1000000 }) (disch := (first | omega | (simp only [go_sem]; try omega))) only [go_sem, Nat.reduceAdd, Nat.reduceEqDiff, Nat.reduceLeDiff, Nat.reduceMul, Nat.reduceLT, reduceIte, Int.reduceToNat, w64_id, cast_succ])
  refine ACalls.fn (heldInt64S_ok _ _ _ 1 ho5.rd (by omega) (by omega)) ?_
  repeat (first | (with_reducible first | refine SW.seq ?_ | refine SW.block ?_ | refine SW.rowC ?_ | refine SW.skip ?_ | refine SW.exit ?_ | intro _ | refine And.intro (by omega) ?_) | simp (config := { maxSteps := 1000000 }) (disch := (first | omega | (simp only [go_sem]; try omega))) only [go_sem, Nat.reduceAdd, Nat.reduceEqDiff, Nat.reduceLeDiff, Nat.reduceMul, Nat.reduceLT, reduceIte, Int.reduceToNat, w64_id, cast_succ, hneg2])
  refine SW.condF rfl ?_
  repeat (first | (with_reducible first | refine SW.seq ?_ | refine SW.block ?_ | refine SW.rowC ?_ | refine SW.skip ?_ | refine SW.exit ?_ | intro _ | refine And.intro (by omega) ?_) | simp (config := { maxSteps := 1000000 }) (disch := (first | omega | (simp only [go_sem]; try omega))) only [go_sem, Nat.reduceAdd, Nat.reduceEqDiff, Nat.reduceLeDiff, Nat.reduceMul, Nat.reduceLT, reduceIte, Int.reduceToNat, w64_id, cast_succ])
  refine SW.condF rfl ?_
  repeat (first | (with_reducible first | refine SW.seq ?_ | refine SW.block ?_ | refine SW.rowC ?_ | refine SW.skip ?_ | refine SW.exit ?_ | refine PFn.use (t1) ?_ | refine PFn.useq (t1) ?_ | intro _ | refine And.intro (by omega) ?_) | simp (config := { maxSteps := 1000000 }) (disch := (first | omega | (simp only [go_sem]; try omega))) only [go_sem, Nat.reduceAdd, Nat.reduceEqDiff, Nat.reduceLeDiff, Nat.reduceMul, Nat.reduceLT, reduceIte, Int.reduceToNat, w64_id, cast_succ, pc_lds pw])
  refine (hi _).mono ?_
  rintro r H6 ⟨ext3, u3, t3, rfl, rfl, ho6, ht6⟩
  repeat (first | (with_reducible first | refine SW.seq ?_ | refine SW.block ?_ | refine SW.rowC ?_ | refine SW.skip ?_ | refine SW.exit ?_ | intro _ | refine And.intro (by omega) ?_) | simp (config := { maxSteps := 1000000 }) (disch := (first | omega | (simp only [go_sem]; try omega))) only [go_sem, Nat.reduceAdd, Nat.reduceEqDiff, Nat.reduceLeDiff, Nat.reduceMul, Nat.reduceLT, reduceIte, Int.reduceToNat, w64_id, cast_succ])
  refine ACalls.fn (eqInt64S_ok _ _ _ _ _ ho6.rd (rd_ilS _ _)) ?_
  repeat (first | (with_reducible first | refine SW.seq ?_ | refine SW.block ?_ | refine SW.rowC ?_ | refine SW.skip ?_ | refine SW.exit ?_ | intro _ | refine And.intro (by omega) ?_) | simp (config := { maxSteps := 1000000 }) (disch := (first | omega | (simp only [go_sem]; try omega))) only [go_sem, Nat.reduceAdd, Nat.reduceEqDiff, Nat.reduceLeDiff, Nat.reduceMul, Nat.reduceLT, reduceIte, Int.reduceToNat, w64_id, cast_succ])
  refine SW.condF rfl ?_
  repeat (first | (with_reducible first | refine SW.seq ?_ | refine SW.block ?_ | refine SW.rowC ?_ | refine SW.skip ?_ | refine SW.exit ?_ | intro _ | refine And.intro (by omega) ?_) | simp (config := { maxSteps := 1000000 }) (disch := (first | omega | (simp only [go_sem]; try omega))) only [go_sem, Nat.reduceAdd, Nat.reduceEqDiff, Nat.reduceLeDiff, Nat.reduceMul, Nat.reduceLT, reduceIte, Int.reduceToNat, w64_id, cast_succ])
  refine ACalls.fn (heldInt64S_ok _ _ _ 1 (ho5.rd.append _) (by omega) (by omega)) ?_
  repeat (first | (with_reducible first | refine SW.seq ?_ | refine SW.block ?_ | refine SW.rowC ?_ | refine SW.skip ?_ | refine SW.exit ?_ | intro _ | refine And.intro (by omega) ?_) | simp (config := { maxSteps := 1000000 }) (disch := (first | omega | (simp only [go_sem]; try omega))) only [go_sem, Nat.reduceAdd, Nat.reduceEqDiff, Nat.reduceLeDiff, Nat.reduceMul, Nat.reduceLT, reduceIte, Int.reduceToNat, w64_id, cast_succ, hneg2])
  refine SW.condF rfl ?_
  repeat (first | (with_reducible first | refine SW.seq ?_ | refine SW.block ?_ | refine SW.rowC ?_ | refine SW.skip ?_ | refine SW.exit ?_ | intro _ | refine And.intro (by omega) ?_) | simp (config := { maxSteps := 1000000 }) (disch := (first | omega | (simp only [go_sem]; try omega))) only [go_sem, Nat.reduceAdd, Nat.reduceEqDiff, Nat.reduceLeDiff, Nat.reduceMul, Nat.reduceLT, reduceIte, Int.reduceToNat, w64_id, cast_succ])
  refine SW.condF rfl ?_
  repeat (first | (with_reducible first | refine SW.seq ?_ | refine SW.block ?_ | refine SW.rowC ?_ | refine SW.skip ?_ | refine SW.exit ?_ | intro _ | refine And.intro (by omega) ?_) | simp (config := { maxSteps := 1000000 }) (disch := (first | omega | (simp only [go_sem]; try omega))) only [go_sem, Nat.reduceAdd, Nat.reduceEqDiff, Nat.reduceLeDiff, Nat.reduceMul, Nat.reduceLT, reduceIte, Int.reduceToNat, w64_id, cast_succ])
  refine SW.ret ?_; (try simp only [go_sem]); (first | refine FunPost.one ?_ | refine FunPost.two ?_ | refine FunPost.three ?_); (try simp (config := { maxSteps := 1000000 }) (disch := (first | omega | (simp only [go_sem]; try omega))) only [go_sem, Nat.reduceAdd, Nat.reduceEqDiff, Nat.reduceLeDiff, Nat.reduceMul, Nat.reduceLT, reduceIte, Int.reduceToNat, w64_id, cast_succ])
  exact GR.of rfl


end Go.Proofs.Ytkpohapopokahaa
