/- The numbers that packings may have. -/
import Derived.Test.YthogadbnddmkdaaGreatProg
import Derived.KernelRfl
import Derived.Test.YthogadbnddmkdaaGreatzK2
import Derived.Test.YthogadbnddmkdaaGreatzL1
import Derived.Test.YthogadbnddmkdaaGreatzK8
set_option linter.unusedSimpArgs false
set_option linter.unusedVariables false
set_option maxHeartbeats 4000000
set_option maxRecDepth 100000
namespace Go.Proofs.YthogadbnddmkdaaGreat
open Go.Av
abbrev f_impl_isPacking : Nat := 35
def c_impl_isPacking : SC :=
 .seq (.reg [
     ⟨(some 8), .mv (.const (.bool false)), none⟩] [0, 1, 2, 3])
 (.seq (.reg [
     ⟨(some 9), .mv (.tmp 0), none⟩,
     ⟨(some 10), .call 52 [(.tmp 9), (.const (.int .i64 1)), (.const (.int .i64 6))], none⟩,
     ⟨(some 11), .mv (.tmp 10), none⟩,
     ⟨(some 12), .mv (.tmp 1), (some (11, true))⟩,
     ⟨(some 13), .mv (.tmp 0), (some (11, true))⟩,
     ⟨(some 14), .call 52 [(.tmp 12), (.const (.int .i64 1)), (.tmp 13)], (some (11, true))⟩,
     ⟨(some 15), .pick (.tmp 11) (.tmp 14) (.const (.bool false)), none⟩,
     ⟨(some 16), .mv (.tmp 15), none⟩,
     ⟨(some 17), .mv (.tmp 2), (some (16, true))⟩,
     ⟨(some 18), .call 52 [(.tmp 17), (.const (.int .i64 0)), (.const (.int .i64 20))], (some (16, true))⟩,
     ⟨(some 19), .pick (.tmp 16) (.tmp 18) (.const (.bool false)), none⟩,
     ⟨(some 20), .mv (.tmp 19), none⟩,
     ⟨(some 21), .mv (.tmp 3), (some (20, true))⟩,
     ⟨(some 22), .mv (.tmp 0), (some (20, true))⟩,
     ⟨(some 23), .call 52 [(.tmp 21), (.const (.int .i64 0)), (.tmp 22)], (some (20, true))⟩,
     ⟨(some 24), .pick (.tmp 20) (.tmp 23) (.const (.bool false)), none⟩,
     ⟨(some 8), .mv (.tmp 24), none⟩] [8])
 (.ret))
theorem s_impl_isPacking : stripF Tryz.prog 35 [[0, 1, 2, 3], [8]] = some (c_impl_isPacking, [.tmp 8], 25) := by kernel_rfl
abbrev f_spec_l27Range : Nat := 40
def c_spec_l27Range : SC :=
 .seq (.reg [
     ⟨(some 8), .mv (.const (.bool false)), none⟩] [0, 1, 2, 3])
 (.seq (.reg [
     ⟨(some 9), .mv (.tmp 0), none⟩,
     ⟨(some 10), .call 47 [(.tmp 9), (.const (.int .i64 1)), (.const (.int .i64 6))], none⟩,
     ⟨(some 11), .mv (.tmp 10), none⟩,
     ⟨(some 12), .mv (.tmp 1), (some (11, true))⟩,
     ⟨(some 13), .mv (.tmp 0), (some (11, true))⟩,
     ⟨(some 14), .call 47 [(.tmp 12), (.const (.int .i64 1)), (.tmp 13)], (some (11, true))⟩,
     ⟨(some 15), .pick (.tmp 11) (.tmp 14) (.const (.bool false)), none⟩,
     ⟨(some 16), .mv (.tmp 15), none⟩,
     ⟨(some 17), .mv (.tmp 2), (some (16, true))⟩,
     ⟨(some 18), .call 47 [(.tmp 17), (.const (.int .i64 0)), (.const (.int .i64 20))], (some (16, true))⟩,
     ⟨(some 19), .pick (.tmp 16) (.tmp 18) (.const (.bool false)), none⟩,
     ⟨(some 20), .mv (.tmp 19), none⟩,
     ⟨(some 21), .mv (.tmp 3), (some (20, true))⟩,
     ⟨(some 22), .mv (.tmp 0), (some (20, true))⟩,
     ⟨(some 23), .call 47 [(.tmp 21), (.const (.int .i64 0)), (.tmp 22)], (some (20, true))⟩,
     ⟨(some 24), .pick (.tmp 20) (.tmp 23) (.const (.bool false)), none⟩,
     ⟨(some 8), .mv (.tmp 24), none⟩] [8])
 (.ret))
theorem s_spec_l27Range : stripF Tryz.prog 40 [[0, 1, 2, 3], [8]] = some (c_spec_l27Range, [.tmp 8], 25) := by kernel_rfl
def packB (v k m s : Int) : Bool := (decide (1 ≤ v) && decide (v ≤ 6)) && ((decide (1 ≤ k) && decide (k ≤ v)) && ((decide (0 ≤ m) && decide (m ≤ 20)) && (decide (0 ≤ s) && decide (s ≤ v))))
theorem isPacking_fn (v k m s : Int) : PFn Tryz.prog f_impl_isPacking [I v, I k, I m, I s] (Bv (packB v k m s)) := by
  have w1 := within_fn v 1 6
  have w2 := within_fn k 1 v
  have w3 := within_fn m 0 20
  have w4 := within_fn s 0 v
  unfold packB
  generalize (decide (1 ≤ v) && decide (v ≤ 6)) = b1 at *
  generalize (decide (1 ≤ k) && decide (k ≤ v)) = b2 at *
  generalize (decide (0 ≤ m) && decide (m ≤ 20)) = b3 at *
  generalize (decide (0 ≤ s) && decide (s ≤ v)) = b4 at *
  intro H; refine ACalls.introB s_impl_isPacking (by simp) ?_; intro hB hA; unfold c_impl_isPacking; simp (config := { maxSteps := 1000000 }) (disch := (first | omega | (simp only [go_sem]; try omega))) only [go_sem, Nat.reduceAdd, Nat.reduceEqDiff, Nat.reduceLeDiff, Nat.reduceMul, Nat.reduceLT, reduceIte, Int.reduceToNat, w64_id, cast_succ]
  cases b1
  · repeat (first | (with_reducible first | refine SW.seq ?_ | refine SW.block ?_ | refine SW.rowC ?_ | refine SW.skip ?_ | refine SW.exit ?_ | refine PFn.use (w1) ?_ | refine PFn.useq (w1) ?_ | intro _ | refine And.intro (by omega) ?_) | simp (config := { maxSteps := 1000000 }) (disch := (first | omega | (simp only [go_sem]; try omega))) only [go_sem, Nat.reduceAdd, Nat.reduceEqDiff, Nat.reduceLeDiff, Nat.reduceMul, Nat.reduceLT, reduceIte, Int.reduceToNat, w64_id, cast_succ])
    refine SW.ret ?_; (try simp only [go_sem]); (first | refine FunPost.one ?_ | refine FunPost.two ?_ | refine FunPost.three ?_); (try simp (config := { maxSteps := 1000000 }) (disch := (first | omega | (simp only [go_sem]; try omega))) only [go_sem, Nat.reduceAdd, Nat.reduceEqDiff, Nat.reduceLeDiff, Nat.reduceMul, Nat.reduceLT, reduceIte, Int.reduceToNat, w64_id, cast_succ]); (first | (with_reducible refine GR.drop ?_ ?_; (simp only [go_sem, and_self, and_true, true_and, implies_true, List.take_succ_cons, List.take_zero])) | refine GR.of ?_); refine ⟨?_, rfl⟩; (try with_reducible rfl)
  cases b2
  · repeat (first | (with_reducible first | refine SW.seq ?_ | refine SW.block ?_ | refine SW.rowC ?_ | refine SW.skip ?_ | refine SW.exit ?_ | refine PFn.use (w1) ?_ | refine PFn.useq (w1) ?_ | refine PFn.use (w2) ?_ | refine PFn.useq (w2) ?_ | intro _ | refine And.intro (by omega) ?_) | simp (config := { maxSteps := 1000000 }) (disch := (first | omega | (simp only [go_sem]; try omega))) only [go_sem, Nat.reduceAdd, Nat.reduceEqDiff, Nat.reduceLeDiff, Nat.reduceMul, Nat.reduceLT, reduceIte, Int.reduceToNat, w64_id, cast_succ])
    refine SW.ret ?_; (try simp only [go_sem]); (first | refine FunPost.one ?_ | refine FunPost.two ?_ | refine FunPost.three ?_); (try simp (config := { maxSteps := 1000000 }) (disch := (first | omega | (simp only [go_sem]; try omega))) only [go_sem, Nat.reduceAdd, Nat.reduceEqDiff, Nat.reduceLeDiff, Nat.reduceMul, Nat.reduceLT, reduceIte, Int.reduceToNat, w64_id, cast_succ]); (first | (with_reducible refine GR.drop ?_ ?_; (simp only [go_sem, and_self, and_true, true_and, implies_true, List.take_succ_cons, List.take_zero])) | refine GR.of ?_); refine ⟨?_, rfl⟩; (try with_reducible rfl)
  cases b3
  · repeat (first | (with_reducible first | refine SW.seq ?_ | refine SW.block ?_ | refine SW.rowC ?_ | refine SW.skip ?_ | refine SW.exit ?_ | refine PFn.use (w1) ?_ | refine PFn.useq (w1) ?_ | refine PFn.use (w2) ?_ | refine PFn.useq (w2) ?_ | refine PFn.use (w3) ?_ | refine PFn.useq (w3) ?_ | intro _ | refine And.intro (by omega) ?_) | simp (config := { maxSteps := 1000000 }) (disch := (first | omega | (simp only [go_sem]; try omega))) only [go_sem, Nat.reduceAdd, Nat.reduceEqDiff, Nat.reduceLeDiff, Nat.reduceMul, Nat.reduceLT, reduceIte, Int.reduceToNat, w64_id, cast_succ])
    refine SW.ret ?_; (try simp only [go_sem]); (first | refine FunPost.one ?_ | refine FunPost.two ?_ | refine FunPost.three ?_); (try simp (config := { maxSteps := 1000000 }) (disch := (first | omega | (simp only [go_sem]; try omega))) only [go_sem, Nat.reduceAdd, Nat.reduceEqDiff, Nat.reduceLeDiff, Nat.reduceMul, Nat.reduceLT, reduceIte, Int.reduceToNat, w64_id, cast_succ]); (first | (with_reducible refine GR.drop ?_ ?_; (simp only [go_sem, and_self, and_true, true_and, implies_true, List.take_succ_cons, List.take_zero])) | refine GR.of ?_); refine ⟨?_, rfl⟩; (try with_reducible rfl)
  · repeat (first | (with_reducible first | refine SW.seq ?_ | refine SW.block ?_ | refine SW.rowC ?_ | refine SW.skip ?_ | refine SW.exit ?_ | refine PFn.use (w1) ?_ | refine PFn.useq (w1) ?_ | refine PFn.use (w2) ?_ | refine PFn.useq (w2) ?_ | refine PFn.use (w3) ?_ | refine PFn.useq (w3) ?_ | refine PFn.use (w4) ?_ | refine PFn.useq (w4) ?_ | intro _ | refine And.intro (by omega) ?_) | simp (config := { maxSteps := 1000000 }) (disch := (first | omega | (simp only [go_sem]; try omega))) only [go_sem, Nat.reduceAdd, Nat.reduceEqDiff, Nat.reduceLeDiff, Nat.reduceMul, Nat.reduceLT, reduceIte, Int.reduceToNat, w64_id, cast_succ])
    refine SW.ret ?_; (try simp only [go_sem]); (first | refine FunPost.one ?_ | refine FunPost.two ?_ | refine FunPost.three ?_); (try simp (config := { maxSteps := 1000000 }) (disch := (first | omega | (simp only [go_sem]; try omega))) only [go_sem, Nat.reduceAdd, Nat.reduceEqDiff, Nat.reduceLeDiff, Nat.reduceMul, Nat.reduceLT, reduceIte, Int.reduceToNat, w64_id, cast_succ]); (first | (with_reducible refine GR.drop ?_ ?_; (simp only [go_sem, and_self, and_true, true_and, implies_true, List.take_succ_cons, List.take_zero])) | refine GR.of ?_); refine ⟨?_, rfl⟩; (try with_reducible rfl)
theorem l27Range_fn (v k m s : Int) : PFn Tryz.prog f_spec_l27Range [I v, I k, I m, I s] (Bv (packB v k m s)) := by
  have w1 := l00In_fn v 1 6
  have w2 := l00In_fn k 1 v
  have w3 := l00In_fn m 0 20
  have w4 := l00In_fn s 0 v
  unfold packB
  generalize (decide (1 ≤ v) && decide (v ≤ 6)) = b1 at *
  generalize (decide (1 ≤ k) && decide (k ≤ v)) = b2 at *
  generalize (decide (0 ≤ m) && decide (m ≤ 20)) = b3 at *
  generalize (decide (0 ≤ s) && decide (s ≤ v)) = b4 at *
  intro H; refine ACalls.introB s_spec_l27Range (by simp) ?_; intro hB hA; unfold c_spec_l27Range; simp (config := { maxSteps := 1000000 }) (disch := (first | omega | (simp only [go_sem]; try omega))) only [go_sem, Nat.reduceAdd, Nat.reduceEqDiff, Nat.reduceLeDiff, Nat.reduceMul, Nat.reduceLT, reduceIte, Int.reduceToNat, w64_id, cast_succ]
  cases b1
  · repeat (first | (with_reducible first | refine SW.seq ?_ | refine SW.block ?_ | refine SW.rowC ?_ | refine SW.skip ?_ | refine SW.exit ?_ | refine PFn.use (w1) ?_ | refine PFn.useq (w1) ?_ | intro _ | refine And.intro (by omega) ?_) | simp (config := { maxSteps := 1000000 }) (disch := (first | omega | (simp only [go_sem]; try omega))) only [go_sem, Nat.reduceAdd, Nat.reduceEqDiff, Nat.reduceLeDiff, Nat.reduceMul, Nat.reduceLT, reduceIte, Int.reduceToNat, w64_id, cast_succ])
    refine SW.ret ?_; (try simp only [go_sem]); (first | refine FunPost.one ?_ | refine FunPost.two ?_ | refine FunPost.three ?_); (try simp (config := { maxSteps := 1000000 }) (disch := (first | omega | (simp only [go_sem]; try omega))) only [go_sem, Nat.reduceAdd, Nat.reduceEqDiff, Nat.reduceLeDiff, Nat.reduceMul, Nat.reduceLT, reduceIte, Int.reduceToNat, w64_id, cast_succ]); (first | (with_reducible refine GR.drop ?_ ?_; (simp only [go_sem, and_self, and_true, true_and, implies_true, List.take_succ_cons, List.take_zero])) | refine GR.of ?_); refine ⟨?_, rfl⟩; (try with_reducible rfl)
  cases b2
  · repeat (first | (with_reducible first | refine SW.seq ?_ | refine SW.block ?_ | refine SW.rowC ?_ | refine SW.skip ?_ | refine SW.exit ?_ | refine PFn.use (w1) ?_ | refine PFn.useq (w1) ?_ | refine PFn.use (w2) ?_ | refine PFn.useq (w2) ?_ | intro _ | refine And.intro (by omega) ?_) | simp (config := { maxSteps := 1000000 }) (disch := (first | omega | (simp only [go_sem]; try omega))) only [go_sem, Nat.reduceAdd, Nat.reduceEqDiff, Nat.reduceLeDiff, Nat.reduceMul, Nat.reduceLT, reduceIte, Int.reduceToNat, w64_id, cast_succ])
    refine SW.ret ?_; (try simp only [go_sem]); (first | refine FunPost.one ?_ | refine FunPost.two ?_ | refine FunPost.three ?_); (try simp (config := { maxSteps := 1000000 }) (disch := (first | omega | (simp only [go_sem]; try omega))) only [go_sem, Nat.reduceAdd, Nat.reduceEqDiff, Nat.reduceLeDiff, Nat.reduceMul, Nat.reduceLT, reduceIte, Int.reduceToNat, w64_id, cast_succ]); (first | (with_reducible refine GR.drop ?_ ?_; (simp only [go_sem, and_self, and_true, true_and, implies_true, List.take_succ_cons, List.take_zero])) | refine GR.of ?_); refine ⟨?_, rfl⟩; (try with_reducible rfl)
  cases b3
  · repeat (first | (with_reducible first | refine SW.seq ?_ | refine SW.block ?_ | refine SW.rowC ?_ | refine SW.skip ?_ | refine SW.exit ?_ | refine PFn.use (w1) ?_ | refine PFn.useq (w1) ?_ | refine PFn.use (w2) ?_ | refine PFn.useq (w2) ?_ | refine PFn.use (w3) ?_ | refine PFn.useq (w3) ?_ | intro _ | refine And.intro (by omega) ?_) | simp (config := { maxSteps := 1000000 }) (disch := (first | omega | (simp only [go_sem]; try omega))) only [go_sem, Nat.reduceAdd, Nat.reduceEqDiff, Nat.reduceLeDiff, Nat.reduceMul, Nat.reduceLT, reduceIte, Int.reduceToNat, w64_id, cast_succ])
    refine SW.ret ?_; (try simp only [go_sem]); (first | refine FunPost.one ?_ | refine FunPost.two ?_ | refine FunPost.three ?_); (try simp (config := { maxSteps := 1000000 }) (disch := (first | omega | (simp only [go_sem]; try omega))) only [go_sem, Nat.reduceAdd, Nat.reduceEqDiff, Nat.reduceLeDiff, Nat.reduceMul, Nat.reduceLT, reduceIte, Int.reduceToNat, w64_id, cast_succ]); (first | (with_reducible refine GR.drop ?_ ?_; (simp only [go_sem, and_self, and_true, true_and, implies_true, List.take_succ_cons, List.take_zero])) | refine GR.of ?_); refine ⟨?_, rfl⟩; (try with_reducible rfl)
  · repeat (first | (with_reducible first | refine SW.seq ?_ | refine SW.block ?_ | refine SW.rowC ?_ | refine SW.skip ?_ | refine SW.exit ?_ | refine PFn.use (w1) ?_ | refine PFn.useq (w1) ?_ | refine PFn.use (w2) ?_ | refine PFn.useq (w2) ?_ | refine PFn.use (w3) ?_ | refine PFn.useq (w3) ?_ | refine PFn.use (w4) ?_ | refine PFn.useq (w4) ?_ | intro _ | refine And.intro (by omega) ?_) | simp (config := { maxSteps := 1000000 }) (disch := (first | omega | (simp only [go_sem]; try omega))) only [go_sem, Nat.reduceAdd, Nat.reduceEqDiff, Nat.reduceLeDiff, Nat.reduceMul, Nat.reduceLT, reduceIte, Int.reduceToNat, w64_id, cast_succ])
    refine SW.ret ?_; (try simp only [go_sem]); (first | refine FunPost.one ?_ | refine FunPost.two ?_ | refine FunPost.three ?_); (try simp (config := { maxSteps := 1000000 }) (disch := (first | omega | (simp only [go_sem]; try omega))) only [go_sem, Nat.reduceAdd, Nat.reduceEqDiff, Nat.reduceLeDiff, Nat.reduceMul, Nat.reduceLT, reduceIte, Int.reduceToNat, w64_id, cast_succ]); (first | (with_reducible refine GR.drop ?_ ?_; (simp only [go_sem, and_self, and_true, true_and, implies_true, List.take_succ_cons, List.take_zero])) | refine GR.of ?_); refine ⟨?_, rfl⟩; (try with_reducible rfl)
theorem packB_t {v k m s : Int} (h : packB v k m s = true) : 1 ≤ v ∧ v ≤ 6 ∧ 1 ≤ k ∧ k ≤ v ∧ 0 ≤ m ∧ m ≤ 20 := by
  simp only [packB, Bool.and_eq_true, decide_eq_true_eq] at h
  omega
end Go.Proofs.YthogadbnddmkdaaGreat
