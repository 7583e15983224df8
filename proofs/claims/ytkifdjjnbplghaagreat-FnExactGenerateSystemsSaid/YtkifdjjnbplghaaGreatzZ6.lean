/- GenerateSystems: both functions, the law. -/
import Derived.Test.YtkifdjjnbplghaaGreatProg
import Derived.KernelRfl
import Derived.Test.YtkifdjjnbplghaaGreatzZ5
import Derived.Test.YtkifdjjnbplghaaGreatzY9
import Derived.Test.YtkifdjjnbplghaaGreatzYB
set_option linter.unusedSimpArgs false
set_option linter.unusedVariables false
set_option maxHeartbeats 4000000
set_option maxRecDepth 100000
namespace Go.Proofs.YtkifdjjnbplghaaGreat
open Go.Av
abbrev f_laws_FnExactGenerateSystems : Nat := 8
def c_laws_FnExactGenerateSystems : SC :=
 .seq (.reg [
     ⟨(some 8), .mv (.const (.bool false)), none⟩] [0, 1, 2, 3])
 (.seq (.reg [
     ⟨(some 18), .mv (.tmp 0), none⟩,
     ⟨(some 19), .mv (.tmp 1), none⟩,
     ⟨(some 20), .mv (.tmp 2), none⟩,
     ⟨(some 21), .mv (.tmp 3), none⟩,
     ⟨(some 22), .call 37 [(.tmp 18), (.tmp 19), (.tmp 20), (.tmp 21)], none⟩,
     ⟨(some 17), .mv (.tmp 22), none⟩,
     ⟨(some 23), .ext (.tmp 17) 0, none⟩,
     ⟨(some 24), .ext (.tmp 17) 1, none⟩,
     ⟨(some 9), .mv (.tmp 23), none⟩,
     ⟨(some 10), .mv (.tmp 24), none⟩] [0, 1, 2, 3, 9, 10])
 (.seq (.reg [
     ⟨(some 26), .mv (.tmp 0), none⟩,
     ⟨(some 27), .mv (.tmp 1), none⟩,
     ⟨(some 28), .mv (.tmp 2), none⟩,
     ⟨(some 29), .mv (.tmp 3), none⟩,
     ⟨(some 30), .call 38 [(.tmp 26), (.tmp 27), (.tmp 28), (.tmp 29)], none⟩,
     ⟨(some 25), .mv (.tmp 30), none⟩,
     ⟨(some 31), .ext (.tmp 25) 0, none⟩,
     ⟨(some 32), .ext (.tmp 25) 1, none⟩,
     ⟨(some 11), .mv (.tmp 31), none⟩,
     ⟨(some 12), .mv (.tmp 32), none⟩] [0, 1, 2, 3, 9, 10, 11, 12])
 (.seq (.seq (.reg [
     ⟨(some 33), .mv (.tmp 11), none⟩,
     ⟨(some 34), .mv (.tmp 9), none⟩,
     ⟨(some 35), .call 19 [(.tmp 33), (.tmp 34)], none⟩,
     ⟨(some 36), .un .not (.tmp 35), none⟩,
     ⟨(some 37), .mv (.tmp 36), none⟩,
     ⟨(some 38), .mv (.tmp 12), (some (37, false))⟩,
     ⟨(some 39), .mv (.tmp 10), (some (37, false))⟩,
     ⟨(some 40), .bin .neq (.tmp 38) (.tmp 39), (some (37, false))⟩,
     ⟨(some 41), .pick (.tmp 37) (.const (.bool true)) (.tmp 40), none⟩] [0, 1, 2, 3, 9, 10, 11, 41])
 (.cond (.tmp 41)
  (.seq (.reg [
      ⟨(some 8), .mv (.const (.bool false)), none⟩] [8])
  (.ret))
  (.skip)))
 (.seq (.reg [
     ⟨(some 13), .mv (.const (.int .i64 1)), none⟩] [0, 1, 2, 3, 9, 10, 11, 13])
 (.seq (.reg [
     ⟨(some 42), .mv (.tmp 11), none⟩,
     ⟨(some 43), .mv (.tmp 13), none⟩,
     ⟨(some 44), .call 21 [(.tmp 42), (.tmp 43)], none⟩,
     ⟨(some 13), .mv (.tmp 44), none⟩] [0, 1, 2, 3, 9, 10, 11, 13])
 (.seq (.reg [
     ⟨(some 14), .mv (.const (.int .i64 1)), none⟩] [0, 1, 2, 3, 9, 10, 11, 13, 14])
 (.seq (.reg [
     ⟨(some 45), .mv (.tmp 11), none⟩,
     ⟨(some 46), .mv (.tmp 14), none⟩,
     ⟨(some 47), .call 22 [(.tmp 45), (.tmp 46)], none⟩,
     ⟨(some 14), .mv (.tmp 47), none⟩] [0, 1, 2, 3, 9, 10, 11, 13, 14])
 (.seq (.seq (.reg [
     ⟨(some 48), .mv (.tmp 14), none⟩,
     ⟨(some 49), .bin .lss (.tmp 48) (.const (.int .i64 0)), none⟩] [0, 1, 2, 3, 9, 10, 11, 13, 14, 49])
 (.cond (.tmp 49)
  (.seq (.reg [
      ⟨(some 8), .mv (.const (.bool false)), none⟩] [8])
  (.ret))
  (.skip)))
 (.seq (.seq (.reg [
     ⟨(some 50), .mv (.tmp 14), none⟩,
     ⟨(some 51), .mv (.tmp 13), none⟩,
     ⟨(some 52), .bin .neq (.tmp 50) (.tmp 51), none⟩] [0, 1, 2, 3, 9, 10, 11, 13, 52])
 (.cond (.tmp 52)
  (.seq (.reg [
      ⟨(some 8), .mv (.const (.bool false)), none⟩] [8])
  (.ret))
  (.skip)))
 (.seq (.reg [
     ⟨(some 54), .mv (.tmp 0), none⟩,
     ⟨(some 55), .mv (.tmp 1), none⟩,
     ⟨(some 56), .mv (.tmp 2), none⟩,
     ⟨(some 57), .mv (.tmp 3), none⟩,
     ⟨(some 58), .call 38 [(.tmp 54), (.tmp 55), (.tmp 56), (.tmp 57)], none⟩,
     ⟨(some 53), .mv (.tmp 58), none⟩,
     ⟨(some 59), .ext (.tmp 53) 0, none⟩,
     ⟨(some 60), .ext (.tmp 53) 1, none⟩,
     ⟨(some 15), .mv (.tmp 59), none⟩,
     ⟨(some 16), .mv (.tmp 60), none⟩] [9, 10, 11, 13, 15, 16])
 (.seq (.seq (.reg [
     ⟨(some 61), .mv (.tmp 15), none⟩,
     ⟨(some 62), .mv (.tmp 9), none⟩,
     ⟨(some 63), .call 19 [(.tmp 61), (.tmp 62)], none⟩,
     ⟨(some 64), .un .not (.tmp 63), none⟩,
     ⟨(some 65), .mv (.tmp 64), none⟩,
     ⟨(some 66), .mv (.tmp 16), (some (65, false))⟩,
     ⟨(some 67), .mv (.tmp 10), (some (65, false))⟩,
     ⟨(some 68), .bin .neq (.tmp 66) (.tmp 67), (some (65, false))⟩,
     ⟨(some 69), .pick (.tmp 65) (.const (.bool true)) (.tmp 68), none⟩] [11, 13, 69])
 (.cond (.tmp 69)
  (.seq (.reg [
      ⟨(some 8), .mv (.const (.bool false)), none⟩] [8])
  (.ret))
  (.skip)))
 (.seq (.reg [
     ⟨(some 14), .mv (.const (.int .i64 1)), none⟩] [11, 13, 14])
 (.seq (.reg [
     ⟨(some 70), .mv (.tmp 11), none⟩,
     ⟨(some 71), .mv (.tmp 14), none⟩,
     ⟨(some 72), .call 22 [(.tmp 70), (.tmp 71)], none⟩,
     ⟨(some 14), .mv (.tmp 72), none⟩] [13, 14])
 (.seq (.seq (.reg [
     ⟨(some 73), .mv (.tmp 14), none⟩,
     ⟨(some 74), .bin .lss (.tmp 73) (.const (.int .i64 0)), none⟩] [13, 14, 74])
 (.cond (.tmp 74)
  (.seq (.reg [
      ⟨(some 8), .mv (.const (.bool false)), none⟩] [8])
  (.ret))
  (.skip)))
 (.seq (.seq (.reg [
     ⟨(some 75), .mv (.tmp 14), none⟩,
     ⟨(some 76), .mv (.tmp 13), none⟩,
     ⟨(some 77), .bin .neq (.tmp 75) (.tmp 76), none⟩] [77])
 (.cond (.tmp 77)
  (.seq (.reg [
      ⟨(some 8), .mv (.const (.bool false)), none⟩] [8])
  (.ret))
  (.skip)))
 (.seq (.reg [
     ⟨(some 8), .mv (.const (.bool true)), none⟩] [8])
 (.ret)))))))))))))))))
theorem s_laws_FnExactGenerateSystems : stripF Tryz.prog 8 [[0, 1, 2, 3], [0, 1, 2, 3, 9, 10], [0, 1, 2, 3, 9, 10, 11, 12], [0, 1, 2, 3, 9, 10, 11, 41], [8], [0, 1, 2, 3, 9, 10, 11, 13], [0, 1, 2, 3, 9, 10, 11, 13], [0, 1, 2, 3, 9, 10, 11, 13, 14], [0, 1, 2, 3, 9, 10, 11, 13, 14], [0, 1, 2, 3, 9, 10, 11, 13, 14, 49], [8], [0, 1, 2, 3, 9, 10, 11, 13, 52], [8], [9, 10, 11, 13, 15, 16], [11, 13, 69], [8], [11, 13, 14], [13, 14], [13, 14, 74], [8], [77], [8], [8]] = some (c_laws_FnExactGenerateSystems, [.tmp 8], 78) := by kernel_rfl
abbrev f_spec_GenerateSystems : Nat := 37
def c_spec_GenerateSystems : SC :=
 .seq (.reg [
     ⟨(some 8), .mv (.const (.slice none 0 0)), none⟩,
     ⟨(some 9), .mv (.const (.int .i64 0)), none⟩] [0, 1, 2, 3])
 (.seq (.seq (.reg [
     ⟨(some 10), .mv (.tmp 0), none⟩,
     ⟨(some 11), .mv (.tmp 1), none⟩,
     ⟨(some 12), .mv (.tmp 2), none⟩,
     ⟨(some 13), .mv (.tmp 3), none⟩,
     ⟨(some 14), .call 66 [(.tmp 10), (.tmp 11), (.tmp 12), (.tmp 13)], none⟩,
     ⟨(some 15), .un .not (.tmp 14), none⟩] [0, 1, 2, 3, 15])
 (.cond (.tmp 15)
  (.seq (.reg [
      ⟨(some 8), .mv (.const (.slice none 0 0)), none⟩,
      ⟨(some 9), .mv (.const (.int .i64 2)), none⟩] [8, 9])
  (.ret))
  (.skip)))
 (.seq (.reg [
     ⟨(some 16), .mv (.tmp 0), none⟩,
     ⟨(some 17), .mv (.tmp 1), none⟩,
     ⟨(some 18), .mv (.tmp 2), none⟩,
     ⟨(some 19), .mv (.tmp 3), none⟩,
     ⟨(some 20), .call 67 [(.tmp 16), (.tmp 17), (.tmp 18), (.tmp 19)], none⟩,
     ⟨(some 8), .mv (.tmp 20), none⟩,
     ⟨(some 9), .mv (.const (.int .i64 0)), none⟩] [8, 9])
 (.ret)))
theorem s_spec_GenerateSystems : stripF Tryz.prog 37 [[0, 1, 2, 3], [0, 1, 2, 3, 15], [8, 9], [8, 9]] = some (c_spec_GenerateSystems, [.tmp 8, .tmp 9], 21) := by kernel_rfl
abbrev f_impl_GenerateSystems : Nat := 38
def c_impl_GenerateSystems : SC :=
 .seq (.reg [
     ⟨(some 8), .mv (.const (.slice none 0 0)), none⟩,
     ⟨(some 9), .mv (.const (.int .i64 0)), none⟩] [0, 1, 2, 3])
 (.seq (.seq (.reg [
     ⟨(some 11), .mv (.tmp 0), none⟩,
     ⟨(some 12), .mv (.tmp 1), none⟩,
     ⟨(some 13), .mv (.tmp 2), none⟩,
     ⟨(some 14), .mv (.tmp 3), none⟩,
     ⟨(some 15), .call 68 [(.tmp 11), (.tmp 12), (.tmp 13), (.tmp 14)], none⟩,
     ⟨(some 16), .un .not (.tmp 15), none⟩] [0, 1, 2, 3, 16])
 (.cond (.tmp 16)
  (.seq (.reg [
      ⟨(some 8), .mv (.const (.slice none 0 0)), none⟩,
      ⟨(some 9), .mv (.const (.int .i64 2)), none⟩] [8, 9])
  (.ret))
  (.skip)))
 (.seq (.reg [
     ⟨(some 17), .bslice 22 1 1 [(.slice none 0 0)] [(0, (.const (.slice none 0 0)))], none⟩,
     ⟨(some 10), .mv (.tmp 17), none⟩] [0, 1, 2, 3, 10])
 (.seq (.seq (.reg [
     ⟨(some 18), .mv (.tmp 2), none⟩,
     ⟨(some 19), .mv (.const (.int .i64 0)), none⟩] [0, 1, 3, 10, 18, 19])
 (.block 0 (.loop [0, 1, 3, 10, 18, 19]
   (.seq (.reg [
       ⟨(some 20), .bin .lss (.tmp 19) (.tmp 18), none⟩] [0, 1, 3, 10, 18, 19, 20])
   (.seq (.cond (.tmp 20)
    (.skip)
    (.exit 0))
   (.seq (.block 1 (.reg [
        ⟨(some 21), .mv (.tmp 0), none⟩,
        ⟨(some 22), .mv (.tmp 10), none⟩,
        ⟨(some 23), .mv (.tmp 1), none⟩,
        ⟨(some 24), .mv (.tmp 3), none⟩,
        ⟨(some 25), .call 69 [(.tmp 21), (.tmp 22), (.tmp 23), (.tmp 24)], none⟩,
        ⟨(some 10), .mv (.tmp 25), none⟩] [0, 1, 3, 10, 18, 19]))
   (.reg [
       ⟨(some 26), .bin .add (.tmp 19) (.const (.int .i64 1)), none⟩,
       ⟨(some 19), .mv (.tmp 26), none⟩] [0, 1, 3, 10, 18, 19])))))))
 (.seq (.reg [
     ⟨(some 27), .mv (.tmp 10), none⟩,
     ⟨(some 8), .mv (.tmp 27), none⟩,
     ⟨(some 9), .mv (.const (.int .i64 0)), none⟩] [8, 9])
 (.ret)))))
theorem s_impl_GenerateSystems : stripF Tryz.prog 38 [[0, 1, 2, 3], [0, 1, 2, 3, 16], [8, 9], [0, 1, 2, 3, 10], [0, 1, 3, 10, 18, 19], [0, 1, 3, 10, 18, 19], [0, 1, 3, 10, 18, 19, 20], [0, 1, 3, 10, 18, 19], [0, 1, 3, 10, 18, 19], [8, 9]] = some (c_impl_GenerateSystems, [.tmp 8, .tmp 9], 28) := by kernel_rfl
abbrev f_spec_l27Range : Nat := 66
def c_spec_l27Range : SC :=
 .seq (.reg [
     ⟨(some 8), .mv (.const (.bool false)), none⟩] [0, 1, 2, 3])
 (.seq (.reg [
     ⟨(some 9), .mv (.tmp 0), none⟩,
     ⟨(some 10), .call 56 [(.tmp 9), (.const (.int .i64 1)), (.const (.int .i64 6))], none⟩,
     ⟨(some 11), .mv (.tmp 10), none⟩,
     ⟨(some 12), .mv (.tmp 1), (some (11, true))⟩,
     ⟨(some 13), .mv (.tmp 0), (some (11, true))⟩,
     ⟨(some 14), .call 56 [(.tmp 12), (.const (.int .i64 1)), (.tmp 13)], (some (11, true))⟩,
     ⟨(some 15), .pick (.tmp 11) (.tmp 14) (.const (.bool false)), none⟩,
     ⟨(some 16), .mv (.tmp 15), none⟩,
     ⟨(some 17), .mv (.tmp 2), (some (16, true))⟩,
     ⟨(some 18), .call 56 [(.tmp 17), (.const (.int .i64 0)), (.const (.int .i64 20))], (some (16, true))⟩,
     ⟨(some 19), .pick (.tmp 16) (.tmp 18) (.const (.bool false)), none⟩,
     ⟨(some 20), .mv (.tmp 19), none⟩,
     ⟨(some 21), .mv (.tmp 3), (some (20, true))⟩,
     ⟨(some 22), .mv (.tmp 0), (some (20, true))⟩,
     ⟨(some 23), .call 56 [(.tmp 21), (.const (.int .i64 0)), (.tmp 22)], (some (20, true))⟩,
     ⟨(some 24), .pick (.tmp 20) (.tmp 23) (.const (.bool false)), none⟩,
     ⟨(some 8), .mv (.tmp 24), none⟩] [8])
 (.ret))
theorem s_spec_l27Range : stripF Tryz.prog 66 [[0, 1, 2, 3], [8]] = some (c_spec_l27Range, [.tmp 8], 25) := by kernel_rfl
abbrev f_impl_isPacking : Nat := 68
def c_impl_isPacking : SC :=
 .seq (.reg [
     ⟨(some 8), .mv (.const (.bool false)), none⟩] [0, 1, 2, 3])
 (.seq (.reg [
     ⟨(some 9), .mv (.tmp 0), none⟩,
     ⟨(some 10), .call 59 [(.tmp 9), (.const (.int .i64 1)), (.const (.int .i64 6))], none⟩,
     ⟨(some 11), .mv (.tmp 10), none⟩,
     ⟨(some 12), .mv (.tmp 1), (some (11, true))⟩,
     ⟨(some 13), .mv (.tmp 0), (some (11, true))⟩,
     ⟨(some 14), .call 59 [(.tmp 12), (.const (.int .i64 1)), (.tmp 13)], (some (11, true))⟩,
     ⟨(some 15), .pick (.tmp 11) (.tmp 14) (.const (.bool false)), none⟩,
     ⟨(some 16), .mv (.tmp 15), none⟩,
     ⟨(some 17), .mv (.tmp 2), (some (16, true))⟩,
     ⟨(some 18), .call 59 [(.tmp 17), (.const (.int .i64 0)), (.const (.int .i64 20))], (some (16, true))⟩,
     ⟨(some 19), .pick (.tmp 16) (.tmp 18) (.const (.bool false)), none⟩,
     ⟨(some 20), .mv (.tmp 19), none⟩,
     ⟨(some 21), .mv (.tmp 3), (some (20, true))⟩,
     ⟨(some 22), .mv (.tmp 0), (some (20, true))⟩,
     ⟨(some 23), .call 59 [(.tmp 21), (.const (.int .i64 0)), (.tmp 22)], (some (20, true))⟩,
     ⟨(some 24), .pick (.tmp 20) (.tmp 23) (.const (.bool false)), none⟩,
     ⟨(some 8), .mv (.tmp 24), none⟩] [8])
 (.ret))
theorem s_impl_isPacking : stripF Tryz.prog 68 [[0, 1, 2, 3], [8]] = some (c_impl_isPacking, [.tmp 8], 25) := by kernel_rfl
def packB (v k m s : Int) : Bool := (decide (1 ≤ v) && decide (v ≤ 6)) && ((decide (1 ≤ k) && decide (k ≤ v)) && ((decide (0 ≤ m) && decide (m ≤ 20)) && (decide (0 ≤ s) && decide (s ≤ v))))
theorem isPacking_fn (v k m s : Int) : PFn Tryz.prog f_impl_isPacking [I v, I k, I m, I s] (Bv (packB v k m s)) := by
  have w1 := within_fn v 1 6
  have w2 := within_fn k 1 v
  have w3 := within_fn m 0 20
  have w4 := within_fn s 0 v
  unfold packB
  generalize (decide (1 ≤ v) && decide (v ≤ 6)) = b1 at *
  generalize (decide (1 ≤ k) && decide (k ≤ v)) = b2 at *
  generalize (decide (0 ≤ m) && decide (m ≤ 20)) = b3 at *
  generalize (decide (0 ≤ s) && decide (s ≤ v)) = b4 at *
  intro H; refine ACalls.introB s_impl_isPacking (by simp) ?_; intro hB hA; unfold c_impl_isPacking; simp (config := { maxSteps := 1000000 }) (disch := (first | omega | (simp only [go_sem]; try omega))) only [go_sem, Nat.reduceAdd, Nat.reduceEqDiff, Nat.reduceLeDiff, Nat.reduceMul, Nat.reduceLT, reduceIte, Int.reduceToNat, w64_id, cast_succ]
  cases b1
  · repeat (first | (with_reducible first | refine SW.seq ?_ | refine SW.block ?_ | refine SW.rowC ?_ | refine SW.skip ?_ | refine SW.exit ?_ | refine PFn.use (w1) ?_ | refine PFn.useq (w1) ?_ | intro _ | refine And.intro (by omega) ?_) | simp (config := { maxSteps := 1000000 }) (disch := (first | omega | (simp only [go_sem]; try omega))) only [go_sem, Nat.reduceAdd, Nat.reduceEqDiff, Nat.reduceLeDiff, Nat.reduceMul, Nat.reduceLT, reduceIte, Int.reduceToNat, w64_id, cast_succ])
    refine SW.ret ?_; (try simp only [go_sem]); (first | refine FunPost.one ?_ | refine FunPost.two ?_ | refine FunPost.three ?_); (try simp (config := { maxSteps := 1000000 }) (disch := (first | omega | (simp only [go_sem]; try omega))) only [go_sem, Nat.reduceAdd, Nat.reduceEqDiff, Nat.reduceLeDiff, Nat.reduceMul, Nat.reduceLT, reduceIte, Int.reduceToNat, w64_id, cast_succ]); (first | (with_reducible refine GR.drop ?_ ?_; (simp only [go_sem, and_self, and_true, true_and, implies_true, List.take_succ_cons, List.take_zero])) | refine GR.of ?_); refine ⟨?_, rfl⟩; (try with_reducible rfl)
  cases b2
  · repeat (first | (with_reducible first | refine SW.seq ?_ | refine SW.block ?_ | refine SW.rowC ?_ | refine SW.skip ?_ | refine SW.exit ?_ | refine PFn.use (w1) ?_ | refine PFn.useq (w1) ?_ | refine PFn.use (w2) ?_ | refine PFn.useq (w2) ?_ | intro _ | refine And.intro (by omega) ?_) | simp (config := { maxSteps := 1000000 }) (disch := (first | omega | (simp only [go_sem]; try omega))) only [go_sem, Nat.reduceAdd, Nat.reduceEqDiff, Nat.reduceLeDiff, Nat.reduceMul, Nat.reduceLT, reduceIte, Int.reduceToNat, w64_id, cast_succ])
    refine SW.ret ?_; (try simp only [go_sem]); (first | refine FunPost.one ?_ | refine FunPost.two ?_ | refine FunPost.three ?_); (try simp (config := { maxSteps := 1000000 }) (disch := (first | omega | (simp only [go_sem]; try omega))) only [go_sem, Nat.reduceAdd, Nat.reduceEqDiff, Nat.reduceLeDiff, Nat.reduceMul, Nat.reduceLT, reduceIte, Int.reduceToNat, w64_id, cast_succ]); (first | (with_reducible refine GR.drop ?_ ?_; (simp only [go_sem, and_self, and_true, true_and, implies_true, List.take_succ_cons, List.take_zero])) | refine GR.of ?_); refine ⟨?_, rfl⟩; (try with_reducible rfl)
  cases b3
  · repeat (first | (with_reducible first | refine SW.seq ?_ | refine SW.block ?_ | refine SW.rowC ?_ | refine SW.skip ?_ | refine SW.exit ?_ | refine PFn.use (w1) ?_ | refine PFn.useq (w1) ?_ | refine PFn.use (w2) ?_ | refine PFn.useq (w2) ?_ | refine PFn.use (w3) ?_ | refine PFn.useq (w3) ?_ | intro _ | refine And.intro (by omega) ?_) | simp (config := { maxSteps := 1000000 }) (disch := (first | omega | (simp only [go_sem]; try omega))) only [go_sem, Nat.reduceAdd, Nat.reduceEqDiff, Nat.reduceLeDiff, Nat.reduceMul, Nat.reduceLT, reduceIte, Int.reduceToNat, w64_id, cast_succ])
    refine SW.ret ?_; (try simp only [go_sem]); (first | refine FunPost.one ?_ | refine FunPost.two ?_ | refine FunPost.three ?_); (try simp (config := { maxSteps := 1000000 }) (disch := (first | omega | (simp only [go_sem]; try omega))) only [go_sem, Nat.reduceAdd, Nat.reduceEqDiff, Nat.reduceLeDiff, Nat.reduceMul, Nat.reduceLT, reduceIte, Int.reduceToNat, w64_id, cast_succ]); (first | (with_reducible refine GR.drop ?_ ?_; (simp only [go_sem, and_self, and_true, true_and, implies_true, List.take_succ_cons, List.take_zero])) | refine GR.of ?_); refine ⟨?_, rfl⟩; (try with_reducible rfl)
  · repeat (first | (with_reducible first | refine SW.seq ?_ | refine SW.block ?_ | refine SW.rowC ?_ | refine SW.skip ?_ | refine SW.exit ?_ | refine PFn.use (w1) ?_ | refine PFn.useq (w1) ?_ | refine PFn.use (w2) ?_ | refine PFn.useq (w2) ?_ | refine PFn.use (w3) ?_ | refine PFn.useq (w3) ?_ | refine PFn.use (w4) ?_ | refine PFn.useq (w4) ?_ | intro _ | refine And.intro (by omega) ?_) | simp (config := { maxSteps := 1000000 }) (disch := (first | omega | (simp only [go_sem]; try omega))) only [go_sem, Nat.reduceAdd, Nat.reduceEqDiff, Nat.reduceLeDiff, Nat.reduceMul, Nat.reduceLT, reduceIte, Int.reduceToNat, w64_id, cast_succ])
    refine SW.ret ?_; (try simp only [go_sem]); (first | refine FunPost.one ?_ | refine FunPost.two ?_ | refine FunPost.three ?_); (try simp (config := { maxSteps := 1000000 }) (disch := (first | omega | (simp only [go_sem]; try omega))) only [go_sem, Nat.reduceAdd, Nat.reduceEqDiff, Nat.reduceLeDiff, Nat.reduceMul, Nat.reduceLT, reduceIte, Int.reduceToNat, w64_id, cast_succ]); (first | (with_reducible refine GR.drop ?_ ?_; (simp only [go_sem, and_self, and_true, true_and, implies_true, List.take_succ_cons, List.take_zero])) | refine GR.of ?_); refine ⟨?_, rfl⟩; (try with_reducible rfl)
theorem l27Range_fn (v k m s : Int) : PFn Tryz.prog f_spec_l27Range [I v, I k, I m, I s] (Bv (packB v k m s)) := by
  have w1 := l00In_fn v 1 6
  have w2 := l00In_fn k 1 v
  have w3 := l00In_fn m 0 20
  have w4 := l00In_fn s 0 v
  unfold packB
  generalize (decide (1 ≤ v) && decide (v ≤ 6)) = b1 at *
  generalize (decide (1 ≤ k) && decide (k ≤ v)) = b2 at *
  generalize (decide (0 ≤ m) && decide (m ≤ 20)) = b3 at *
  generalize (decide (0 ≤ s) && decide (s ≤ v)) = b4 at *
  intro H; refine ACalls.introB s_spec_l27Range (by simp) ?_; intro hB hA; unfold c_spec_l27Range; simp (config := { maxSteps := 1000000 }) (disch := (first | omega | (simp only [go_sem]; try omega))) only [go_sem, Nat.reduceAdd, Nat.reduceEqDiff, Nat.reduceLeDiff, Nat.reduceMul, Nat.reduceLT, reduceIte, Int.reduceToNat, w64_id, cast_succ]
  cases b1
  · repeat (first | (with_reducible first | refine SW.seq ?_ | refine SW.block ?_ | refine SW.rowC ?_ | refine SW.skip ?_ | refine SW.exit ?_ | refine PFn.use (w1) ?_ | refine PFn.useq (w1) ?_ | intro _ | refine And.intro (by omega) ?_) | simp (config := { maxSteps := 1000000 }) (disch := (first | omega | (simp only [go_sem]; try omega))) only [go_sem, Nat.reduceAdd, Nat.reduceEqDiff, Nat.reduceLeDiff, Nat.reduceMul, Nat.reduceLT, reduceIte, Int.reduceToNat, w64_id, cast_succ])
    refine SW.ret ?_; (try simp only [go_sem]); (first | refine FunPost.one ?_ | refine FunPost.two ?_ | refine FunPost.three ?_); (try simp (config := { maxSteps := 1000000 }) (disch := (first | omega | (simp only [go_sem]; try omega))) only [go_sem, Nat.reduceAdd, Nat.reduceEqDiff, Nat.reduceLeDiff, Nat.reduceMul, Nat.reduceLT, reduceIte, Int.reduceToNat, w64_id, cast_succ]); (first | (with_reducible refine GR.drop ?_ ?_; (simp only [go_sem, and_self, and_true, true_and, implies_true, List.take_succ_cons, List.take_zero])) | refine GR.of ?_); refine ⟨?_, rfl⟩; (try with_reducible rfl)
  cases b2
  · repeat (first | (with_reducible first | refine SW.seq ?_ | refine SW.block ?_ | refine SW.rowC ?_ | refine SW.skip ?_ | refine SW.exit ?_ | refine PFn.use (w1) ?_ | refine PFn.useq (w1) ?_ | refine PFn.use (w2) ?_ | refine PFn.useq (w2) ?_ | intro _ | refine And.intro (by omega) ?_) | simp (config := { maxSteps := 1000000 }) (disch := (first | omega | (simp only [go_sem]; try omega))) only [go_sem, Nat.reduceAdd, Nat.reduceEqDiff, Nat.reduceLeDiff, Nat.reduceMul, Nat.reduceLT, reduceIte, Int.reduceToNat, w64_id, cast_succ])
    refine SW.ret ?_; (try simp only [go_sem]); (first | refine FunPost.one ?_ | refine FunPost.two ?_ | refine FunPost.three ?_); (try simp (config := { maxSteps := 1000000 }) (disch := (first | omega | (simp only [go_sem]; try omega))) only [go_sem, Nat.reduceAdd, Nat.reduceEqDiff, Nat.reduceLeDiff, Nat.reduceMul, Nat.reduceLT, reduceIte, Int.reduceToNat, w64_id, cast_succ]); (first | (with_reducible refine GR.drop ?_ ?_; (simp only [go_sem, and_self, and_true, true_and, implies_true, List.take_succ_cons, List.take_zero])) | refine GR.of ?_); refine ⟨?_, rfl⟩; (try with_reducible rfl)
  cases b3
  · repeat (first | (with_reducible first | refine SW.seq ?_ | refine SW.block ?_ | refine SW.rowC ?_ | refine SW.skip ?_ | refine SW.exit ?_ | refine PFn.use (w1) ?_ | refine PFn.useq (w1) ?_ | refine PFn.use (w2) ?_ | refine PFn.useq (w2) ?_ | refine PFn.use (w3) ?_ | refine PFn.useq (w3) ?_ | intro _ | refine And.intro (by omega) ?_) | simp (config := { maxSteps := 1000000 }) (disch := (first | omega | (simp only [go_sem]; try omega))) only [go_sem, Nat.reduceAdd, Nat.reduceEqDiff, Nat.reduceLeDiff, Nat.reduceMul, Nat.reduceLT, reduceIte, Int.reduceToNat, w64_id, cast_succ])
    refine SW.ret ?_; (try simp only [go_sem]); (first | refine FunPost.one ?_ | refine FunPost.two ?_ | refine FunPost.three ?_); (try simp (config := { maxSteps := 1000000 }) (disch := (first | omega | (simp only [go_sem]; try omega))) only [go_sem, Nat.reduceAdd, Nat.reduceEqDiff, Nat.reduceLeDiff, Nat.reduceMul, Nat.reduceLT, reduceIte, Int.reduceToNat, w64_id, cast_succ]); (first | (with_reducible refine GR.drop ?_ ?_; (simp only [go_sem, and_self, and_true, true_and, implies_true, List.take_succ_cons, List.take_zero])) | refine GR.of ?_); refine ⟨?_, rfl⟩; (try with_reducible rfl)
  · repeat (first | (with_reducible first | refine SW.seq ?_ | refine SW.block ?_ | refine SW.rowC ?_ | refine SW.skip ?_ | refine SW.exit ?_ | refine PFn.use (w1) ?_ | refine PFn.useq (w1) ?_ | refine PFn.use (w2) ?_ | refine PFn.useq (w2) ?_ | refine PFn.use (w3) ?_ | refine PFn.useq (w3) ?_ | refine PFn.use (w4) ?_ | refine PFn.useq (w4) ?_ | intro _ | refine And.intro (by omega) ?_) | simp (config := { maxSteps := 1000000 }) (disch := (first | omega | (simp only [go_sem]; try omega))) only [go_sem, Nat.reduceAdd, Nat.reduceEqDiff, Nat.reduceLeDiff, Nat.reduceMul, Nat.reduceLT, reduceIte, Int.reduceToNat, w64_id, cast_succ])
    refine SW.ret ?_; (try simp only [go_sem]); (first | refine FunPost.one ?_ | refine FunPost.two ?_ | refine FunPost.three ?_); (try simp (config := { maxSteps := 1000000 }) (disch := (first | omega | (simp only [go_sem]; try omega))) only [go_sem, Nat.reduceAdd, Nat.reduceEqDiff, Nat.reduceLeDiff, Nat.reduceMul, Nat.reduceLT, reduceIte, Int.reduceToNat, w64_id, cast_succ]); (first | (with_reducible refine GR.drop ?_ ?_; (simp only [go_sem, and_self, and_true, true_and, implies_true, List.take_succ_cons, List.take_zero])) | refine GR.of ?_); refine ⟨?_, rfl⟩; (try with_reducible rfl)
theorem packB_t {v k m s : Int} (h : packB v k m s = true) : 1 ≤ v ∧ v ≤ 6 ∧ 1 ≤ k ∧ k ≤ v ∧ 0 ≤ m ∧ m ≤ 20 := by
  simp only [packB, Bool.and_eq_true, decide_eq_true_eq] at h
  omega
def genV (v k m s : Int) : List (List (List Int)) := if packB v k m s = true then genN v.toNat k.toNat s m.toNat else []
def genC (v k m s : Int) : Int := if packB v k m s = true then 0 else 2
theorem genV_len (v k m s : Int) : (genV v k m s).length ≤ 1048576 ∧ total3 (genV v k m s) ≤ 1048576 * 120 := by
  unfold genV
  split
  · rename_i h
    obtain ⟨h1, h2, h3, h4, h5, h6⟩ := packB_t h
    obtain ⟨ga, go⟩ := genN_ok (v := v.toNat) (k := k.toNat) (s := s) (by omega) (by omega) m.toNat
    have gc := pack_count (by omega) (by omega) ga go
    refine ⟨gc, ?_⟩
    have := total3_le (c := 120) (x3 := genN v.toNat k.toNat s m.toNat) (fun x hx => by
      obtain ⟨q1, -, q3⟩ := go x hx
      have := total_le6 (c := 6) (xss := x) (fun y hy => by have := (q3 y hy).1; omega)
      omega)
    omega
  · simp [total3]
theorem implGenerate_fx (v k m s : Int) : FX Tryz.prog f_impl_GenerateSystems [I v, I k, I m, I s] (genV v k m s) (genC v k m s) := by
  have hp := isPacking_fn v k m s
  unfold genV genC
  intro H
  cases hb : packB v k m s
  · rw [hb] at hp
    simp only [Bool.false_eq_true, if_false]
    refine ACalls.introB s_impl_GenerateSystems (by simp) ?_; intro hB hA; unfold c_impl_GenerateSystems; simp (config := { maxSteps := 1000000 }) (disch := (first | omega | (simp only [go_sem]; try omega))) only [go_sem, Nat.reduceAdd, Nat.reduceEqDiff, Nat.reduceLeDiff, Nat.reduceMul, Nat.reduceLT, reduceIte, Int.reduceToNat, w64_id, cast_succ]
    repeat (first | (with_reducible first | refine SW.seq ?_ | refine SW.block ?_ | refine SW.rowC ?_ | refine SW.skip ?_ | refine SW.exit ?_ | refine PFn.use (hp) ?_ | refine PFn.useq (hp) ?_ | intro _ | refine And.intro (by omega) ?_) | simp (config := { maxSteps := 1000000 }) (disch := (first | omega | (simp only [go_sem]; try omega))) only [go_sem, Nat.reduceAdd, Nat.reduceEqDiff, Nat.reduceLeDiff, Nat.reduceMul, Nat.reduceLT, reduceIte, Int.reduceToNat, w64_id, cast_succ])
    refine SW.condT rfl ?_
    repeat (first | (with_reducible first | refine SW.seq ?_ | refine SW.block ?_ | refine SW.rowC ?_ | refine SW.skip ?_ | refine SW.exit ?_ | intro _ | refine And.intro (by omega) ?_) | simp (config := { maxSteps := 1000000 }) (disch := (first | omega | (simp only [go_sem]; try omega))) only [go_sem, Nat.reduceAdd, Nat.reduceEqDiff, Nat.reduceLeDiff, Nat.reduceMul, Nat.reduceLT, reduceIte, Int.reduceToNat, w64_id, cast_succ])
    refine SW.ret ?_; (try simp only [go_sem]); (first | refine FunPost.one ?_ | refine FunPost.two ?_ | refine FunPost.three ?_); (try simp (config := { maxSteps := 1000000 }) (disch := (first | omega | (simp only [go_sem]; try omega))) only [go_sem, Nat.reduceAdd, Nat.reduceEqDiff, Nat.reduceLeDiff, Nat.reduceMul, Nat.reduceLT, reduceIte, Int.reduceToNat, w64_id, cast_succ])
    exact GR.of ⟨[], _, by simp, rfl, .inr ⟨rfl, rfl⟩⟩
  · rw [hb] at hp
    simp only [if_true]
    obtain ⟨h1, h2, h3, h4, h5, h6⟩ := packB_t hb
    obtain ⟨v, rfl⟩ := Int.eq_ofNat_of_zero_le (show 0 ≤ v by omega)
    obtain ⟨k, rfl⟩ := Int.eq_ofNat_of_zero_le (show 0 ≤ k by omega)
    obtain ⟨m, rfl⟩ := Int.eq_ofNat_of_zero_le h5
    simp only [Int.toNat_natCast]
    refine ACalls.introB s_impl_GenerateSystems (by simp) ?_; intro hB hA; unfold c_impl_GenerateSystems; simp (config := { maxSteps := 1000000 }) (disch := (first | omega | (simp only [go_sem]; try omega))) only [go_sem, Nat.reduceAdd, Nat.reduceEqDiff, Nat.reduceLeDiff, Nat.reduceMul, Nat.reduceLT, reduceIte, Int.reduceToNat, w64_id, cast_succ]
    repeat (first | (with_reducible first | refine SW.seq ?_ | refine SW.block ?_ | refine SW.rowC ?_ | refine SW.skip ?_ | refine SW.exit ?_ | refine PFn.use (hp) ?_ | refine PFn.useq (hp) ?_ | intro _ | refine And.intro (by omega) ?_) | simp (config := { maxSteps := 1000000 }) (disch := (first | omega | (simp only [go_sem]; try omega))) only [go_sem, Nat.reduceAdd, Nat.reduceEqDiff, Nat.reduceLeDiff, Nat.reduceMul, Nat.reduceLT, reduceIte, Int.reduceToNat, w64_id, cast_succ])
    refine SW.condF rfl ?_
    repeat (first | (with_reducible first | refine SW.seq ?_ | refine SW.block ?_ | refine SW.rowC ?_ | refine SW.skip ?_ | refine SW.exit ?_ | intro _ | refine And.intro (by omega) ?_) | simp (config := { maxSteps := 1000000 }) (disch := (first | omega | (simp only [go_sem]; try omega))) only [go_sem, Nat.reduceAdd, Nat.reduceEqDiff, Nat.reduceLeDiff, Nat.reduceMul, Nat.reduceLT, reduceIte, Int.reduceToNat, w64_id, cast_succ])
    have own0 : OwnX (H ++ [(⟨0, 22, 1, [nilS]⟩ : Blk)]) (Btw H.length (H ++ [(⟨0, 22, 1, [nilS]⟩ : Blk)]).length) (.nm H.length 0 0 1) [[]] := by
      refine .inl ⟨H.length, 0, 22, [nilS], fun j r => False, rfl, ⟨by omega, by simp⟩, by simp, rfl, ?_, by simp, by simp⟩
      intro j c xs g1 g2
      cases j with
      | succ j => simp at g1
      | zero =>
        simp at g1 g2
        subst g1; subst g2
        exact .inr ⟨rfl, .inl rfl⟩
    refine SW.loopE (fun E0 H0 q E' H' => ∃ (j : Nat) (w : AV), j ≤ m ∧ q = m - j ∧ E' = aput (aput E0 19 (I j)) 10 w ∧ OwnX H' (Btw H.length H'.length) w (genN v k s j) ∧ H.length ≤ H'.length ∧ ∀ i, i < H.length → H'[i]? = H[i]?) m
      ⟨0, _, by omega, by omega, rfl, own0, by simp, fun i hi => by rw [List.getElem?_append_left hi]⟩ ?_
    rintro q E' H1 ⟨j, w, hj, rfl, rfl, own, hle, hpre⟩
    obtain ⟨ga, go⟩ := genN_ok (v := v) (k := k) (s := s) (by omega) (by omega) j
    have gc := pack_count (by omega) (by omega) ga go
    have gs : genN v k s (j + 1) = genS v k s (genN v k s j) := rfl
    have hone := own.one
    simp (config := { maxSteps := 1000000 }) (disch := (first | omega | (simp only [go_sem]; try omega))) only [go_sem, Nat.reduceAdd, Nat.reduceEqDiff, Nat.reduceLeDiff, Nat.reduceMul, Nat.reduceLT, reduceIte, Int.reduceToNat, w64_id, cast_succ]
    repeat (first | (with_reducible first | refine SW.seq ?_ | refine SW.block ?_ | refine SW.rowC ?_ | refine SW.skip ?_ | refine SW.exit ?_ | intro _ | refine And.intro (by omega) ?_) | simp (config := { maxSteps := 1000000 }) (disch := (first | omega | (simp only [go_sem]; try omega))) only [go_sem, Nat.reduceAdd, Nat.reduceEqDiff, Nat.reduceLeDiff, Nat.reduceMul, Nat.reduceLT, reduceIte, Int.reduceToNat, w64_id, cast_succ])
    (first | refine SW.condD rfl (fun h => ?_) (fun h => ?_) | refine SW.condN rfl (fun h => ?_) (fun h => ?_) | refine SW.condNB rfl (fun h => ?_) (fun h => ?_) | refine SW.condB rfl (fun h => ?_) (fun h => ?_))
    · repeat (first | (with_reducible first | refine SW.seq ?_ | refine SW.block ?_ | refine SW.rowC ?_ | refine SW.skip ?_ | refine SW.exit ?_ | intro _ | refine And.intro (by omega) ?_) | simp (config := { maxSteps := 1000000 }) (disch := (first | omega | (simp only [go_sem]; try omega))) only [go_sem, Nat.reduceAdd, Nat.reduceEqDiff, Nat.reduceLeDiff, Nat.reduceMul, Nat.reduceLT, reduceIte, Int.reduceToNat, w64_id, cast_succ])
      refine ((extended_own v k s (genN v k s j) j (by omega) (by omega) (by omega) (by omega) go gc).lend (.cons (froz_I' _) (.cons (own.froz (fun r _ => Nat.zero_le _)) (.cons (froz_I' _) (.cons (froz_I' _) .nil))))).mono ?_
      rintro r H2 ⟨ext, hH2, own2⟩
      have hl2 : H1.length ≤ H2.length := by rw [hH2]; simp
      have h12 : ∀ i, i < H1.length → H2[i]? = H1[i]? := fun i hi => by rw [hH2, List.getElem?_append_left hi]
      repeat (first | (with_reducible first | refine SW.seq ?_ | refine SW.block ?_ | refine SW.rowC ?_ | refine SW.skip ?_ | refine SW.exit ?_ | intro _ | refine And.intro (by omega) ?_) | simp (config := { maxSteps := 1000000 }) (disch := (first | omega | (simp only [go_sem]; try omega))) only [go_sem, Nat.reduceAdd, Nat.reduceEqDiff, Nat.reduceLeDiff, Nat.reduceMul, Nat.reduceLT, reduceIte, Int.reduceToNat, w64_id, cast_succ, own2.one.1, own2.one.2])
      refine SLoop.next (m - (j + 1)) (by omega) ⟨j + 1, r, by omega, rfl, by simp [go_sem], ?_, by omega, fun i hi => ?_⟩
      · rw [gs]; exact own2.weak (fun r h1 h2 => ⟨by have := h1.1; omega, h2⟩)
      · rw [h12 i (by omega)]; exact hpre i hi
    · have : j = m := by omega
      subst this
      repeat (first | (with_reducible first | refine SW.seq ?_ | refine SW.block ?_ | refine SW.rowC ?_ | refine SW.skip ?_ | refine SW.exit ?_ | intro _ | refine And.intro (by omega) ?_) | simp (config := { maxSteps := 1000000 }) (disch := (first | omega | (simp only [go_sem]; try omega))) only [go_sem, Nat.reduceAdd, Nat.reduceEqDiff, Nat.reduceLeDiff, Nat.reduceMul, Nat.reduceLT, reduceIte, Int.reduceToNat, w64_id, cast_succ])
      refine SW.ret ?_; (try simp only [go_sem]); (first | refine FunPost.one ?_ | refine FunPost.two ?_ | refine FunPost.three ?_); (try simp (config := { maxSteps := 1000000 }) (disch := (first | omega | (simp only [go_sem]; try omega))) only [go_sem, Nat.reduceAdd, Nat.reduceEqDiff, Nat.reduceLeDiff, Nat.reduceMul, Nat.reduceLT, reduceIte, Int.reduceToNat, w64_id, cast_succ])
      obtain ⟨ext, hext⟩ := prefix_of hle hpre
      exact GR.of ⟨ext, w, hext, rfl, own⟩
theorem specGenerate_fn (v k m s : Int) : PFn Tryz.prog f_spec_GenerateSystems [I v, I k, I m, I s] (.tup [il3 (genV v k m s), I (genC v k m s)]) := by
  have hp := l27Range_fn v k m s
  unfold genV genC
  cases hb : packB v k m s
  · rw [hb] at hp
    simp only [Bool.false_eq_true, if_false]
    intro H; refine ACalls.introB s_spec_GenerateSystems (by simp) ?_; intro hB hA; unfold c_spec_GenerateSystems; simp (config := { maxSteps := 1000000 }) (disch := (first | omega | (simp only [go_sem]; try omega))) only [go_sem, Nat.reduceAdd, Nat.reduceEqDiff, Nat.reduceLeDiff, Nat.reduceMul, Nat.reduceLT, reduceIte, Int.reduceToNat, w64_id, cast_succ]
    repeat (first | (with_reducible first | refine SW.seq ?_ | refine SW.block ?_ | refine SW.rowC ?_ | refine SW.skip ?_ | refine SW.exit ?_ | refine PFn.use (hp) ?_ | refine PFn.useq (hp) ?_ | intro _ | refine And.intro (by omega) ?_) | simp (config := { maxSteps := 1000000 }) (disch := (first | omega | (simp only [go_sem]; try omega))) only [go_sem, Nat.reduceAdd, Nat.reduceEqDiff, Nat.reduceLeDiff, Nat.reduceMul, Nat.reduceLT, reduceIte, Int.reduceToNat, w64_id, cast_succ])
    refine SW.condT rfl ?_
    repeat (first | (with_reducible first | refine SW.seq ?_ | refine SW.block ?_ | refine SW.rowC ?_ | refine SW.skip ?_ | refine SW.exit ?_ | intro _ | refine And.intro (by omega) ?_) | simp (config := { maxSteps := 1000000 }) (disch := (first | omega | (simp only [go_sem]; try omega))) only [go_sem, Nat.reduceAdd, Nat.reduceEqDiff, Nat.reduceLeDiff, Nat.reduceMul, Nat.reduceLT, reduceIte, Int.reduceToNat, w64_id, cast_succ])
    refine SW.ret ?_; (try simp only [go_sem]); (first | refine FunPost.one ?_ | refine FunPost.two ?_ | refine FunPost.three ?_); (try simp (config := { maxSteps := 1000000 }) (disch := (first | omega | (simp only [go_sem]; try omega))) only [go_sem, Nat.reduceAdd, Nat.reduceEqDiff, Nat.reduceLeDiff, Nat.reduceMul, Nat.reduceLT, reduceIte, Int.reduceToNat, w64_id, cast_succ])
    exact GR.froz0 (r' := .tup [il3 [], I 2]) (froz_tup2 .nil (froz_I' _)) ⟨rfl, rfl⟩
  · rw [hb] at hp
    simp only [if_true]
    obtain ⟨h1, h2, h3, h4, h5, h6⟩ := packB_t hb
    obtain ⟨v, rfl⟩ := Int.eq_ofNat_of_zero_le (show 0 ≤ v by omega)
    obtain ⟨k, rfl⟩ := Int.eq_ofNat_of_zero_le (show 0 ≤ k by omega)
    obtain ⟨m, rfl⟩ := Int.eq_ofNat_of_zero_le h5
    simp only [Int.toNat_natCast]
    have hg := l27Generate_fn v k m s (by omega) (by omega) (by omega) (by omega)
    intro H; refine ACalls.introB s_spec_GenerateSystems (by simp) ?_; intro hB hA; unfold c_spec_GenerateSystems; simp (config := { maxSteps := 1000000 }) (disch := (first | omega | (simp only [go_sem]; try omega))) only [go_sem, Nat.reduceAdd, Nat.reduceEqDiff, Nat.reduceLeDiff, Nat.reduceMul, Nat.reduceLT, reduceIte, Int.reduceToNat, w64_id, cast_succ]
    repeat (first | (with_reducible first | refine SW.seq ?_ | refine SW.block ?_ | refine SW.rowC ?_ | refine SW.skip ?_ | refine SW.exit ?_ | refine PFn.use (hp) ?_ | refine PFn.useq (hp) ?_ | intro _ | refine And.intro (by omega) ?_) | simp (config := { maxSteps := 1000000 }) (disch := (first | omega | (simp only [go_sem]; try omega))) only [go_sem, Nat.reduceAdd, Nat.reduceEqDiff, Nat.reduceLeDiff, Nat.reduceMul, Nat.reduceLT, reduceIte, Int.reduceToNat, w64_id, cast_succ])
    refine SW.condF rfl ?_
    repeat (first | (with_reducible first | refine SW.seq ?_ | refine SW.block ?_ | refine SW.rowC ?_ | refine SW.skip ?_ | refine SW.exit ?_ | refine PFn.use (hg) ?_ | refine PFn.useq (hg) ?_ | intro _ | refine And.intro (by omega) ?_) | simp (config := { maxSteps := 1000000 }) (disch := (first | omega | (simp only [go_sem]; try omega))) only [go_sem, Nat.reduceAdd, Nat.reduceEqDiff, Nat.reduceLeDiff, Nat.reduceMul, Nat.reduceLT, reduceIte, Int.reduceToNat, w64_id, cast_succ])
    refine SW.ret ?_; (try simp only [go_sem]); (first | refine FunPost.one ?_ | refine FunPost.two ?_ | refine FunPost.three ?_); (try simp (config := { maxSteps := 1000000 }) (disch := (first | omega | (simp only [go_sem]; try omega))) only [go_sem, Nat.reduceAdd, Nat.reduceEqDiff, Nat.reduceLeDiff, Nat.reduceMul, Nat.reduceLT, reduceIte, Int.reduceToNat, w64_id, cast_succ]); (first | (with_reducible refine GR.drop ?_ ?_; (simp only [go_sem, and_self, and_true, true_and, implies_true, List.take_succ_cons, List.take_zero])) | refine GR.of ?_); refine ⟨?_, rfl⟩; (try with_reducible rfl)
theorem lawGenerate_ok (H : List Blk) (v k m s : Int) : ACalls Tryz.prog f_laws_FnExactGenerateSystems [I v, I k, I m, I s] H (fun r _ => r = Bv true) := by
  have hs := specGenerate_fn v k m s
  have hi := implGenerate_fx v k m s
  obtain ⟨hlen, hto⟩ := genV_len v k m s
  generalize genV v k m s = zs at *
  generalize genC v k m s = code at *
  have hneg2 : decide ((1 : Int) + total3 zs < 0) = false := decide_eq_false (by omega)
  refine ACalls.introB s_laws_FnExactGenerateSystems (by simp) ?_; intro hB hA; unfold c_laws_FnExactGenerateSystems; simp (config := { maxSteps := 1000000 }) (disch := (first | omega | (simp only [go_sem]; try omega))) only [go_sem, Nat.reduceAdd, Nat.reduceEqDiff, Nat.reduceLeDiff, Nat.reduceMul, Nat.reduceLT, reduceIte, Int.reduceToNat, w64_id, cast_succ]
  repeat (first | (with_reducible first | refine SW.seq ?_ | refine SW.block ?_ | refine SW.rowC ?_ | refine SW.skip ?_ | refine SW.exit ?_ | refine PFn.use (hs) ?_ | refine PFn.useq (hs) ?_ | intro _ | refine And.intro (by omega) ?_) | simp (config := { maxSteps := 1000000 }) (disch := (first | omega | (simp only [go_sem]; try omega))) only [go_sem, Nat.reduceAdd, Nat.reduceEqDiff, Nat.reduceLeDiff, Nat.reduceMul, Nat.reduceLT, reduceIte, Int.reduceToNat, w64_id, cast_succ])
  refine (hi _).mono ?_
  rintro r H3 ⟨ext, gu, rfl, rfl, hu⟩
  repeat (first | (with_reducible first | refine SW.seq ?_ | refine SW.block ?_ | refine SW.rowC ?_ | refine SW.skip ?_ | refine SW.exit ?_ | intro _ | refine And.intro (by omega) ?_) | simp (config := { maxSteps := 1000000 }) (disch := (first | omega | (simp only [go_sem]; try omega))) only [go_sem, Nat.reduceAdd, Nat.reduceEqDiff, Nat.reduceLeDiff, Nat.reduceMul, Nat.reduceLT, reduceIte, Int.reduceToNat, w64_id, cast_succ, hu.one.1, hu.one.2])
  refine ACalls.fn (eqInt64SSS_ok _ gu (il3 zs) zs hu.rd (rd_il3 _ _) (by omega)) ?_
  repeat (first | (with_reducible first | refine SW.seq ?_ | refine SW.block ?_ | refine SW.rowC ?_ | refine SW.skip ?_ | refine SW.exit ?_ | intro _ | refine And.intro (by omega) ?_) | simp (config := { maxSteps := 1000000 }) (disch := (first | omega | (simp only [go_sem]; try omega))) only [go_sem, Nat.reduceAdd, Nat.reduceEqDiff, Nat.reduceLeDiff, Nat.reduceMul, Nat.reduceLT, reduceIte, Int.reduceToNat, w64_id, cast_succ])
  refine SW.condF rfl ?_
  repeat (first | (with_reducible first | refine SW.seq ?_ | refine SW.block ?_ | refine SW.rowC ?_ | refine SW.skip ?_ | refine SW.exit ?_ | intro _ | refine And.intro (by omega) ?_) | simp (config := { maxSteps := 1000000 }) (disch := (first | omega | (simp only [go_sem]; try omega))) only [go_sem, Nat.reduceAdd, Nat.reduceEqDiff, Nat.reduceLeDiff, Nat.reduceMul, Nat.reduceLT, reduceIte, Int.reduceToNat, w64_id, cast_succ])
  refine (markInt64SSS_ok _ _ _ _ 1 hu (by omega) (by omega) (by omega)).mono ?_
  rintro r H8 ⟨rfl, hu8, q3, q4⟩
  repeat (first | (with_reducible first | refine SW.seq ?_ | refine SW.block ?_ | refine SW.rowC ?_ | refine SW.skip ?_ | refine SW.exit ?_ | intro _ | refine And.intro (by omega) ?_) | simp (config := { maxSteps := 1000000 }) (disch := (first | omega | (simp only [go_sem]; try omega))) only [go_sem, Nat.reduceAdd, Nat.reduceEqDiff, Nat.reduceLeDiff, Nat.reduceMul, Nat.reduceLT, reduceIte, Int.reduceToNat, w64_id, cast_succ])
  refine ACalls.fn (heldInt64SSS_ok _ _ zs 1 hu8.rd (by omega) (by omega) (by omega)) ?_
  repeat (first | (with_reducible first | refine SW.seq ?_ | refine SW.block ?_ | refine SW.rowC ?_ | refine SW.skip ?_ | refine SW.exit ?_ | intro _ | refine And.intro (by omega) ?_) | simp (config := { maxSteps := 1000000 }) (disch := (first | omega | (simp only [go_sem]; try omega))) only [go_sem, Nat.reduceAdd, Nat.reduceEqDiff, Nat.reduceLeDiff, Nat.reduceMul, Nat.reduceLT, reduceIte, Int.reduceToNat, w64_id, cast_succ, hneg2])
  refine SW.condF rfl ?_
  repeat (first | (with_reducible first | refine SW.seq ?_ | refine SW.block ?_ | refine SW.rowC ?_ | refine SW.skip ?_ | refine SW.exit ?_ | intro _ | refine And.intro (by omega) ?_) | simp (config := { maxSteps := 1000000 }) (disch := (first | omega | (simp only [go_sem]; try omega))) only [go_sem, Nat.reduceAdd, Nat.reduceEqDiff, Nat.reduceLeDiff, Nat.reduceMul, Nat.reduceLT, reduceIte, Int.reduceToNat, w64_id, cast_succ])
  refine SW.condF rfl ?_
  repeat (first | (with_reducible first | refine SW.seq ?_ | refine SW.block ?_ | refine SW.rowC ?_ | refine SW.skip ?_ | refine SW.exit ?_ | intro _ | refine And.intro (by omega) ?_) | simp (config := { maxSteps := 1000000 }) (disch := (first | omega | (simp only [go_sem]; try omega))) only [go_sem, Nat.reduceAdd, Nat.reduceEqDiff, Nat.reduceLeDiff, Nat.reduceMul, Nat.reduceLT, reduceIte, Int.reduceToNat, w64_id, cast_succ])
  refine (hi _).mono ?_
  rintro r H9 ⟨ext3, hw, rfl, rfl, ho9⟩
  repeat (first | (with_reducible first | refine SW.seq ?_ | refine SW.block ?_ | refine SW.rowC ?_ | refine SW.skip ?_ | refine SW.exit ?_ | intro _ | refine And.intro (by omega) ?_) | simp (config := { maxSteps := 1000000 }) (disch := (first | omega | (simp only [go_sem]; try omega))) only [go_sem, Nat.reduceAdd, Nat.reduceEqDiff, Nat.reduceLeDiff, Nat.reduceMul, Nat.reduceLT, reduceIte, Int.reduceToNat, w64_id, cast_succ])
  refine ACalls.fn (eqInt64SSS_ok _ hw (il3 zs) zs ho9.rd (rd_il3 _ _) (by omega)) ?_
  repeat (first | (with_reducible first | refine SW.seq ?_ | refine SW.block ?_ | refine SW.rowC ?_ | refine SW.skip ?_ | refine SW.exit ?_ | intro _ | refine And.intro (by omega) ?_) | simp (config := { maxSteps := 1000000 }) (disch := (first | omega | (simp only [go_sem]; try omega))) only [go_sem, Nat.reduceAdd, Nat.reduceEqDiff, Nat.reduceLeDiff, Nat.reduceMul, Nat.reduceLT, reduceIte, Int.reduceToNat, w64_id, cast_succ])
  refine SW.condF rfl ?_
  repeat (first | (with_reducible first | refine SW.seq ?_ | refine SW.block ?_ | refine SW.rowC ?_ | refine SW.skip ?_ | refine SW.exit ?_ | intro _ | refine And.intro (by omega) ?_) | simp (config := { maxSteps := 1000000 }) (disch := (first | omega | (simp only [go_sem]; try omega))) only [go_sem, Nat.reduceAdd, Nat.reduceEqDiff, Nat.reduceLeDiff, Nat.reduceMul, Nat.reduceLT, reduceIte, Int.reduceToNat, w64_id, cast_succ])
  refine ACalls.fn (heldInt64SSS_ok _ _ zs 1 (hu8.append _).rd (by omega) (by omega) (by omega)) ?_
  repeat (first | (with_reducible first | refine SW.seq ?_ | refine SW.block ?_ | refine SW.rowC ?_ | refine SW.skip ?_ | refine SW.exit ?_ | intro _ | refine And.intro (by omega) ?_) | simp (config := { maxSteps := 1000000 }) (disch := (first | omega | (simp only [go_sem]; try omega))) only [go_sem, Nat.reduceAdd, Nat.reduceEqDiff, Nat.reduceLeDiff, Nat.reduceMul, Nat.reduceLT, reduceIte, Int.reduceToNat, w64_id, cast_succ, hneg2])
  refine SW.condF rfl ?_
  repeat (first | (with_reducible first | refine SW.seq ?_ | refine SW.block ?_ | refine SW.rowC ?_ | refine SW.skip ?_ | refine SW.exit ?_ | intro _ | refine And.intro (by omega) ?_) | simp (config := { maxSteps := 1000000 }) (disch := (first | omega | (simp only [go_sem]; try omega))) only [go_sem, Nat.reduceAdd, Nat.reduceEqDiff, Nat.reduceLeDiff, Nat.reduceMul, Nat.reduceLT, reduceIte, Int.reduceToNat, w64_id, cast_succ])
  refine SW.condF rfl ?_
  repeat (first | (with_reducible first | refine SW.seq ?_ | refine SW.block ?_ | refine SW.rowC ?_ | refine SW.skip ?_ | refine SW.exit ?_ | intro _ | refine And.intro (by omega) ?_) | simp (config := { maxSteps := 1000000 }) (disch := (first | omega | (simp only [go_sem]; try omega))) only [go_sem, Nat.reduceAdd, Nat.reduceEqDiff, Nat.reduceLeDiff, Nat.reduceMul, Nat.reduceLT, reduceIte, Int.reduceToNat, w64_id, cast_succ])
  refine SW.ret ?_; (try simp only [go_sem]); (first | refine FunPost.one ?_ | refine FunPost.two ?_ | refine FunPost.three ?_); (try simp (config := { maxSteps := 1000000 }) (disch := (first | omega | (simp only [go_sem]; try omega))) only [go_sem, Nat.reduceAdd, Nat.reduceEqDiff, Nat.reduceLeDiff, Nat.reduceMul, Nat.reduceLT, reduceIte, Int.reduceToNat, w64_id, cast_succ])
  exact GR.of rfl
end Go.Proofs.YtkifdjjnbplghaaGreat
