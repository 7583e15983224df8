/- Lists compared; sets; systems. -/
import Derived.Test.YthogadbnddmkdaaProg
import Derived.KernelRfl
import Derived.Test.YthogadbnddmkdaazK2
set_option linter.unusedSimpArgs false
set_option linter.unusedVariables false
set_option maxHeartbeats 4000000
set_option maxRecDepth 100000
namespace Go.Proofs.Ythogadbnddmkdaa
open Go.Av
abbrev f_impl_ValidSet : Nat := 121
def c_impl_ValidSet : SC :=
 .seq (.reg [
     ⟨(some 4), .mv (.const (.bool false)), none⟩] [0, 1])
 (.seq (.reg [
     ⟨(some 5), .mv (.const (.int .i64 (-1))), none⟩] [0, 1, 5])
 (.seq (.seq (.reg [
     ⟨(some 8), .mv (.tmp 0), none⟩,
     ⟨(some 9), .len (.tmp 8), none⟩,
     ⟨(some 10), .mv (.const (.int .i64 0)), none⟩] [1, 5, 8, 9, 10])
 (.block 0 (.loop [1, 5, 8, 9, 10]
   (.seq (.reg [
       ⟨(some 11), .bin .lss (.tmp 10) (.tmp 9), none⟩] [1, 5, 8, 9, 10, 11])
   (.seq (.cond (.tmp 11)
    (.skip)
    (.exit 0))
   (.seq (.block 1 (.seq (.reg [
        ⟨(some 12), .iaddr 1 (.tmp 8) (.tmp 10), none⟩,
        ⟨(some 13), .load 1 false (.tmp 12), none⟩,
        ⟨(some 7), .mv (.tmp 13), none⟩] [1, 5, 7, 8, 9, 10])
    (.seq (.seq (.reg [
        ⟨(some 14), .mv (.tmp 7), none⟩,
        ⟨(some 15), .mv (.tmp 5), none⟩,
        ⟨(some 16), .bin .leq (.tmp 14) (.tmp 15), none⟩,
        ⟨(some 17), .mv (.tmp 16), none⟩,
        ⟨(some 18), .mv (.tmp 7), (some (17, false))⟩,
        ⟨(some 19), .mv (.tmp 1), (some (17, false))⟩,
        ⟨(some 20), .bin .geq (.tmp 18) (.tmp 19), (some (17, false))⟩,
        ⟨(some 21), .pick (.tmp 17) (.const (.bool true)) (.tmp 20), none⟩] [1, 7, 8, 9, 10, 21])
    (.cond (.tmp 21)
     (.seq (.reg [
         ⟨(some 4), .mv (.const (.bool false)), none⟩] [4])
     (.ret))
     (.skip)))
    (.reg [
        ⟨(some 22), .mv (.tmp 7), none⟩,
        ⟨(some 5), .mv (.tmp 22), none⟩] [1, 5, 8, 9, 10]))))
   (.reg [
       ⟨(some 23), .bin .add (.tmp 10) (.const (.int .i64 1)), none⟩,
       ⟨(some 10), .mv (.tmp 23), none⟩] [1, 5, 8, 9, 10])))))))
 (.seq (.reg [
     ⟨(some 24), .mv (.tmp 1), none⟩,
     ⟨(some 25), .call 60 [(.tmp 24), (.const (.int .i64 0)), (.const (.int .i64 32))], none⟩,
     ⟨(some 4), .mv (.tmp 25), none⟩] [4])
 (.ret))))
theorem s_impl_ValidSet : stripF Try.prog 121 [[0, 1], [0, 1, 5], [1, 5, 8, 9, 10], [1, 5, 8, 9, 10], [1, 5, 8, 9, 10, 11], [1, 5, 7, 8, 9, 10], [1, 7, 8, 9, 10, 21], [4], [1, 5, 8, 9, 10], [1, 5, 8, 9, 10], [4]] = some (c_impl_ValidSet, [.tmp 4], 26) := by kernel_rfl
def cmpL : List Int → List Int → Int
  | [], [] => 0
  | [], _ :: _ => -1
  | _ :: _, [] => 1
  | x :: a, y :: b => if x < y then -1 else if y < x then 1 else cmpL a b
theorem ValidSet_fn (xs : List Int) (n : Int) : PFn Try.prog f_impl_ValidSet [ilS xs, I n] (Bv (asc 0 (n - 1) xs && (decide (0 ≤ n) && decide (n ≤ 32)))) := by
  intro H; refine ACalls.introB s_impl_ValidSet (by simp) ?_; intro hB hA; unfold c_impl_ValidSet; simp (config := { maxSteps := 1000000 }) (disch := (first | omega | (simp only [go_sem]; try omega))) only [go_sem, Nat.reduceAdd, Nat.reduceEqDiff, Nat.reduceLeDiff, Nat.reduceMul, Nat.reduceLT, reduceIte, Int.reduceToNat, w64_id, cast_succ]
  repeat (first | (with_reducible first | refine SW.seq ?_ | refine SW.block ?_ | refine SW.rowC ?_ | refine SW.skip ?_ | refine SW.exit ?_ | intro _ | refine And.intro (by omega) ?_) | simp (config := { maxSteps := 1000000 }) (disch := (first | omega | (simp only [go_sem]; try omega))) only [go_sem, Nat.reduceAdd, Nat.reduceEqDiff, Nat.reduceLeDiff, Nat.reduceMul, Nat.reduceLT, reduceIte, Int.reduceToNat, w64_id, cast_succ])
  refine SW.loopE (fun E0 H0 q E' H' => ∃ (pre post : List Int) (last : Int), xs = pre ++ post ∧ q = post.length ∧ E' = aput (aput E0 5 (I last)) 10 (I pre.length) ∧ H' = H0 ∧ asc 0 (n - 1) xs = asc (last + 1) (n - 1) post) xs.length ⟨[], xs, -1, rfl, rfl, rfl, rfl, rfl⟩ ?_
  rintro q E' H' ⟨pre, post, last, hp, rfl, rfl, rfl, ha⟩
  simp (config := { maxSteps := 1000000 }) (disch := (first | omega | (simp only [go_sem]; try omega))) only [go_sem, Nat.reduceAdd, Nat.reduceEqDiff, Nat.reduceLeDiff, Nat.reduceMul, Nat.reduceLT, reduceIte, Int.reduceToNat, w64_id, cast_succ]
  repeat (first | (with_reducible first | refine SW.seq ?_ | refine SW.block ?_ | refine SW.rowC ?_ | refine SW.skip ?_ | refine SW.exit ?_ | intro _ | refine And.intro (by omega) ?_) | simp (config := { maxSteps := 1000000 }) (disch := (first | omega | (simp only [go_sem]; try omega))) only [go_sem, Nat.reduceAdd, Nat.reduceEqDiff, Nat.reduceLeDiff, Nat.reduceMul, Nat.reduceLT, reduceIte, Int.reduceToNat, w64_id, cast_succ])
  (first | refine SW.condD rfl (fun h => ?_) (fun h => ?_) | refine SW.condN rfl (fun h => ?_) (fun h => ?_) | refine SW.condNB rfl (fun h => ?_) (fun h => ?_) | refine SW.condB rfl (fun h => ?_) (fun h => ?_))
  · cases post with
    | nil => exfalso; simp at hp; subst hp; omega
    | cons x post =>
      have hg : xs.getD pre.length 0 = x := by subst hp; simp
      repeat (first | (with_reducible first | refine SW.seq ?_ | refine SW.block ?_ | refine SW.rowC ?_ | refine SW.skip ?_ | refine SW.exit ?_ | intro _ | refine And.intro (by omega) ?_) | simp (config := { maxSteps := 1000000 }) (disch := (first | omega | (simp only [go_sem]; try omega))) only [go_sem, Nat.reduceAdd, Nat.reduceEqDiff, Nat.reduceLeDiff, Nat.reduceMul, Nat.reduceLT, reduceIte, Int.reduceToNat, w64_id, cast_succ, hg])
      refine ⟨fun h1 => ?_, fun h1 => ?_⟩
      · have h1 := of_decide_eq_false h1
        repeat (first | (with_reducible first | refine SW.seq ?_ | refine SW.block ?_ | refine SW.rowC ?_ | refine SW.skip ?_ | refine SW.exit ?_ | intro _ | refine And.intro (by omega) ?_) | simp (config := { maxSteps := 1000000 }) (disch := (first | omega | (simp only [go_sem]; try omega))) only [go_sem, Nat.reduceAdd, Nat.reduceEqDiff, Nat.reduceLeDiff, Nat.reduceMul, Nat.reduceLT, reduceIte, Int.reduceToNat, w64_id, cast_succ])
        (first | refine SW.condD rfl (fun h2 => ?_) (fun h2 => ?_) | refine SW.condN rfl (fun h2 => ?_) (fun h2 => ?_) | refine SW.condNB rfl (fun h2 => ?_) (fun h2 => ?_) | refine SW.condB rfl (fun h2 => ?_) (fun h2 => ?_))
        · repeat (first | (with_reducible first | refine SW.seq ?_ | refine SW.block ?_ | refine SW.rowC ?_ | refine SW.skip ?_ | refine SW.exit ?_ | intro _ | refine And.intro (by omega) ?_) | simp (config := { maxSteps := 1000000 }) (disch := (first | omega | (simp only [go_sem]; try omega))) only [go_sem, Nat.reduceAdd, Nat.reduceEqDiff, Nat.reduceLeDiff, Nat.reduceMul, Nat.reduceLT, reduceIte, Int.reduceToNat, w64_id, cast_succ])
          refine SW.ret ?_; (try simp only [go_sem]); (first | refine FunPost.one ?_ | refine FunPost.two ?_ | refine FunPost.three ?_); (try simp (config := { maxSteps := 1000000 }) (disch := (first | omega | (simp only [go_sem]; try omega))) only [go_sem, Nat.reduceAdd, Nat.reduceEqDiff, Nat.reduceLeDiff, Nat.reduceMul, Nat.reduceLT, reduceIte, Int.reduceToNat, w64_id, cast_succ]); (first | (with_reducible refine GR.drop ?_ ?_; (simp only [go_sem, and_self, and_true, true_and, implies_true, List.take_succ_cons, List.take_zero])) | refine GR.of ?_); refine ⟨?_, rfl⟩; (try with_reducible rfl)
          rw [ha]; simp [asc, show ¬ x ≤ n - 1 by omega]
        · repeat (first | (with_reducible first | refine SW.seq ?_ | refine SW.block ?_ | refine SW.rowC ?_ | refine SW.skip ?_ | refine SW.exit ?_ | intro _ | refine And.intro (by omega) ?_) | simp (config := { maxSteps := 1000000 }) (disch := (first | omega | (simp only [go_sem]; try omega))) only [go_sem, Nat.reduceAdd, Nat.reduceEqDiff, Nat.reduceLeDiff, Nat.reduceMul, Nat.reduceLT, reduceIte, Int.reduceToNat, w64_id, cast_succ])
          refine SLoop.next post.length (by simp) ⟨pre ++ [x], post, x, by simp [hp], rfl, ?_, rfl, ?_⟩
          · simp [go_sem]
          · rw [ha]; simp [asc, show last + 1 ≤ x by omega, show x ≤ n - 1 by omega]
      · have h1 := of_decide_eq_true h1
        repeat (first | (with_reducible first | refine SW.seq ?_ | refine SW.block ?_ | refine SW.rowC ?_ | refine SW.skip ?_ | refine SW.exit ?_ | intro _ | refine And.intro (by omega) ?_) | simp (config := { maxSteps := 1000000 }) (disch := (first | omega | (simp only [go_sem]; try omega))) only [go_sem, Nat.reduceAdd, Nat.reduceEqDiff, Nat.reduceLeDiff, Nat.reduceMul, Nat.reduceLT, reduceIte, Int.reduceToNat, w64_id, cast_succ])
        (first | refine SW.condD rfl (fun h2 => ?_) (fun h2 => ?_) | refine SW.condN rfl (fun h2 => ?_) (fun h2 => ?_) | refine SW.condNB rfl (fun h2 => ?_) (fun h2 => ?_) | refine SW.condB rfl (fun h2 => ?_) (fun h2 => ?_))
        · repeat (first | (with_reducible first | refine SW.seq ?_ | refine SW.block ?_ | refine SW.rowC ?_ | refine SW.skip ?_ | refine SW.exit ?_ | intro _ | refine And.intro (by omega) ?_) | simp (config := { maxSteps := 1000000 }) (disch := (first | omega | (simp only [go_sem]; try omega))) only [go_sem, Nat.reduceAdd, Nat.reduceEqDiff, Nat.reduceLeDiff, Nat.reduceMul, Nat.reduceLT, reduceIte, Int.reduceToNat, w64_id, cast_succ])
          refine SW.ret ?_; (try simp only [go_sem]); (first | refine FunPost.one ?_ | refine FunPost.two ?_ | refine FunPost.three ?_); (try simp (config := { maxSteps := 1000000 }) (disch := (first | omega | (simp only [go_sem]; try omega))) only [go_sem, Nat.reduceAdd, Nat.reduceEqDiff, Nat.reduceLeDiff, Nat.reduceMul, Nat.reduceLT, reduceIte, Int.reduceToNat, w64_id, cast_succ]); (first | (with_reducible refine GR.drop ?_ ?_; (simp only [go_sem, and_self, and_true, true_and, implies_true, List.take_succ_cons, List.take_zero])) | refine GR.of ?_); refine ⟨?_, rfl⟩; (try with_reducible rfl)
          rw [ha]; simp [asc, show ¬ last + 1 ≤ x by omega]
        · cases h2
  · repeat (first | (with_reducible first | refine SW.seq ?_ | refine SW.block ?_ | refine SW.rowC ?_ | refine SW.skip ?_ | refine SW.exit ?_ | refine PFn.use (within_fn _ _ _) ?_ | refine PFn.useq (within_fn _ _ _) ?_ | intro _ | refine And.intro (by omega) ?_) | simp (config := { maxSteps := 1000000 }) (disch := (first | omega | (simp only [go_sem]; try omega))) only [go_sem, Nat.reduceAdd, Nat.reduceEqDiff, Nat.reduceLeDiff, Nat.reduceMul, Nat.reduceLT, reduceIte, Int.reduceToNat, w64_id, cast_succ])
    refine SW.ret ?_; (try simp only [go_sem]); (first | refine FunPost.one ?_ | refine FunPost.two ?_ | refine FunPost.three ?_); (try simp (config := { maxSteps := 1000000 }) (disch := (first | omega | (simp only [go_sem]; try omega))) only [go_sem, Nat.reduceAdd, Nat.reduceEqDiff, Nat.reduceLeDiff, Nat.reduceMul, Nat.reduceLT, reduceIte, Int.reduceToNat, w64_id, cast_succ]); (first | (with_reducible refine GR.drop ?_ ?_; (simp only [go_sem, and_self, and_true, true_and, implies_true, List.take_succ_cons, List.take_zero])) | refine GR.of ?_); refine ⟨?_, rfl⟩; (try with_reducible rfl)
    have : post = [] := by cases post with
      | nil => rfl
      | cons x post => exfalso; subst hp; simp at h; omega
    subst this
    rw [ha]; simp [asc]
end Go.Proofs.Ythogadbnddmkdaa
