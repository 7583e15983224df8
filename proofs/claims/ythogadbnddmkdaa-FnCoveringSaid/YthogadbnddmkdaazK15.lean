/- Arrays: when one is valid. -/
import Derived.Test.YthogadbnddmkdaaProg
import Derived.KernelRfl
import Derived.Test.YthogadbnddmkdaazK7
set_option linter.unusedSimpArgs false
set_option linter.unusedVariables false
set_option maxHeartbeats 4000000
set_option maxRecDepth 100000
namespace Go.Proofs.Ythogadbnddmkdaa
open Go.Av
abbrev f_impl_ValidArray : Nat := 18
def c_impl_ValidArray : SC :=
 .seq (.reg [
     ⟨(some 1), .box 27 (.tmp 0), none⟩,
     ⟨(some 2), .mv (.const (.bool false)), none⟩] [1])
 (.seq (.seq (.reg [
     ⟨(some 5), .faddr 0 (.tmp 1), none⟩,
     ⟨(some 6), .load 1 false (.tmp 5), none⟩,
     ⟨(some 7), .faddr 1 (.tmp 1), none⟩,
     ⟨(some 8), .load 1 false (.tmp 7), none⟩,
     ⟨(some 9), .call 45 [(.tmp 6), (.tmp 8)], none⟩,
     ⟨(some 10), .un .not (.tmp 9), none⟩,
     ⟨(some 11), .mv (.tmp 10), none⟩,
     ⟨(some 12), .faddr 2 (.tmp 1), (some (11, false))⟩,
     ⟨(some 13), .load 1 false (.tmp 12), (some (11, false))⟩,
     ⟨(some 14), .len (.tmp 13), (some (11, false))⟩,
     ⟨(some 15), .bin .gtr (.tmp 14) (.const (.int .i64 256)), (some (11, false))⟩,
     ⟨(some 16), .pick (.tmp 11) (.const (.bool true)) (.tmp 15), none⟩] [1, 16])
 (.cond (.tmp 16)
  (.seq (.reg [
      ⟨(some 2), .mv (.const (.bool false)), none⟩] [2])
  (.ret))
  (.skip)))
 (.seq (.seq (.reg [
     ⟨(some 17), .faddr 2 (.tmp 1), none⟩,
     ⟨(some 18), .load 1 false (.tmp 17), none⟩,
     ⟨(some 19), .len (.tmp 18), none⟩,
     ⟨(some 20), .mv (.const (.int .i64 0)), none⟩] [1, 18, 19, 20])
 (.block 0 (.loop [1, 18, 19, 20]
   (.seq (.reg [
       ⟨(some 21), .bin .lss (.tmp 20) (.tmp 19), none⟩] [1, 18, 19, 20, 21])
   (.seq (.cond (.tmp 21)
    (.skip)
    (.exit 0))
   (.seq (.block 1 (.seq (.reg [
        ⟨(some 22), .iaddr 1 (.tmp 18) (.tmp 20), none⟩,
        ⟨(some 23), .load 1 false (.tmp 22), none⟩,
        ⟨(some 4), .mv (.tmp 23), none⟩] [1, 4, 18, 19, 20])
    (.seq (.reg [
        ⟨(some 24), .mv (.tmp 4), none⟩,
        ⟨(some 25), .qcall 57 [(.tmp 24)], none⟩,
        ⟨(some 26), .faddr 1 (.tmp 1), none⟩,
        ⟨(some 27), .load 1 false (.tmp 26), none⟩,
        ⟨(some 28), .bin .neq (.tmp 25) (.tmp 27), none⟩,
        ⟨(some 29), .mv (.tmp 28), none⟩,
        ⟨(some 30), .mv (.tmp 4), (some (29, false))⟩,
        ⟨(some 31), .mkf 59 [(.tmp 1)], (some (29, false))⟩,
        ⟨(some 32), .qcall 58 [(.tmp 30), (.tmp 31)], (some (29, false))⟩,
        ⟨(some 33), .pick (.tmp 29) (.const (.bool true)) (.tmp 32), none⟩] [1, 18, 19, 20, 33])
    (.cond (.tmp 33)
     (.seq (.reg [
         ⟨(some 2), .mv (.const (.bool false)), none⟩] [2])
     (.ret))
     (.skip)))))
   (.reg [
       ⟨(some 34), .bin .add (.tmp 20) (.const (.int .i64 1)), none⟩,
       ⟨(some 20), .mv (.tmp 34), none⟩] [1, 18, 19, 20])))))))
 (.seq (.reg [
     ⟨(some 2), .mv (.const (.bool true)), none⟩] [2])
 (.ret))))
theorem s_impl_ValidArray : stripF Try.prog 18 [[1], [1, 16], [2], [1, 18, 19, 20], [1, 18, 19, 20], [1, 18, 19, 20, 21], [1, 4, 18, 19, 20], [1, 18, 19, 20, 33], [2], [1, 18, 19, 20], [2]] = some (c_impl_ValidArray, [.tmp 2], 35) := by kernel_rfl
abbrev f_impl_isShape : Nat := 45
def c_impl_isShape : SC :=
 .seq (.reg [
     ⟨(some 4), .mv (.const (.bool false)), none⟩] [0, 1])
 (.seq (.reg [
     ⟨(some 5), .mv (.tmp 0), none⟩,
     ⟨(some 6), .call 60 [(.tmp 5), (.const (.int .i64 2)), (.const (.int .i64 16))], none⟩,
     ⟨(some 7), .mv (.tmp 6), none⟩,
     ⟨(some 8), .mv (.tmp 1), (some (7, true))⟩,
     ⟨(some 9), .call 60 [(.tmp 8), (.const (.int .i64 1)), (.const (.int .i64 8))], (some (7, true))⟩,
     ⟨(some 10), .pick (.tmp 7) (.tmp 9) (.const (.bool false)), none⟩,
     ⟨(some 4), .mv (.tmp 10), none⟩] [4])
 (.ret))
theorem s_impl_isShape : stripF Try.prog 45 [[0, 1], [4]] = some (c_impl_isShape, [.tmp 4], 11) := by kernel_rfl
abbrev f_impl_ValidArray_c1 : Nat := 59
def c_impl_ValidArray_c1 : SC :=
 .seq (.reg [
     ⟨(some 3), .mv (.const (.bool false)), none⟩] [0, 1])
 (.seq (.reg [
     ⟨(some 4), .mv (.tmp 0), none⟩,
     ⟨(some 5), .faddr 0 (.tmp 1), none⟩,
     ⟨(some 6), .load 1 false (.tmp 5), none⟩,
     ⟨(some 7), .bin .sub (.tmp 6) (.const (.int .i64 1)), none⟩,
     ⟨(some 8), .call 60 [(.tmp 4), (.const (.int .i64 0)), (.tmp 7)], none⟩,
     ⟨(some 9), .un .not (.tmp 8), none⟩,
     ⟨(some 3), .mv (.tmp 9), none⟩] [3])
 (.ret))
theorem s_impl_ValidArray_c1 : stripF Try.prog 59 [[0, 1], [3]] = some (c_impl_ValidArray_c1, [.tmp 3], 10) := by kernel_rfl
def shapeOk (l c : Int) : Bool := decide (2 ≤ l) && decide (l ≤ 16) && (decide (1 ≤ c) && decide (c ≤ 8))
def rowOk (l c : Int) (row : List Int) : Bool := decide ((row.length : Int) = c) && row.all fun x => decide (0 ≤ x) && decide (x ≤ l - 1)
def arrayOk (l c : Int) (rows : List (List Int)) : Bool := shapeOk l c && decide (rows.length ≤ 256) && rows.all (rowOk l c)
theorem shapeOk_iff {l c : Int} : shapeOk l c = true ↔ 2 ≤ l ∧ l ≤ 16 ∧ 1 ≤ c ∧ c ≤ 8 := by simp [shapeOk, and_assoc]
theorem isShape_fn (l c : Int) : PFn Try.prog f_impl_isShape [I l, I c] (Bv (shapeOk l c)) := by
  intro H; refine ACalls.introB s_impl_isShape (by simp) ?_; intro hB hA; unfold c_impl_isShape; simp (config := { maxSteps := 1000000 }) (disch := (first | omega | (simp only [go_sem]; try omega))) only [go_sem, Nat.reduceAdd, Nat.reduceEqDiff, Nat.reduceLeDiff, Nat.reduceMul, Nat.reduceLT, reduceIte, Int.reduceToNat, w64_id, cast_succ]
  repeat (first | (with_reducible first | refine SW.seq ?_ | refine SW.block ?_ | refine SW.rowC ?_ | refine SW.skip ?_ | refine SW.exit ?_ | refine PFn.use (within_fn _ _ _) ?_ | refine PFn.useq (within_fn _ _ _) ?_ | intro _ | refine And.intro (by omega) ?_) | simp (config := { maxSteps := 1000000 }) (disch := (first | omega | (simp only [go_sem]; try omega))) only [go_sem, Nat.reduceAdd, Nat.reduceEqDiff, Nat.reduceLeDiff, Nat.reduceMul, Nat.reduceLT, reduceIte, Int.reduceToNat, w64_id, cast_succ])
  by_cases h : (decide (2 ≤ l) && decide (l ≤ 16)) = true
  · repeat (first | (with_reducible first | refine SW.seq ?_ | refine SW.block ?_ | refine SW.rowC ?_ | refine SW.skip ?_ | refine SW.exit ?_ | refine PFn.use (within_fn _ _ _) ?_ | refine PFn.useq (within_fn _ _ _) ?_ | intro _ | refine And.intro (by omega) ?_) | simp (config := { maxSteps := 1000000 }) (disch := (first | omega | (simp only [go_sem]; try omega))) only [go_sem, Nat.reduceAdd, Nat.reduceEqDiff, Nat.reduceLeDiff, Nat.reduceMul, Nat.reduceLT, reduceIte, Int.reduceToNat, w64_id, cast_succ, h])
    refine SW.ret ?_; (try simp only [go_sem]); (first | refine FunPost.one ?_ | refine FunPost.two ?_ | refine FunPost.three ?_); (try simp (config := { maxSteps := 1000000 }) (disch := (first | omega | (simp only [go_sem]; try omega))) only [go_sem, Nat.reduceAdd, Nat.reduceEqDiff, Nat.reduceLeDiff, Nat.reduceMul, Nat.reduceLT, reduceIte, Int.reduceToNat, w64_id, cast_succ]); (first | (with_reducible refine GR.drop ?_ ?_; (simp only [go_sem, and_self, and_true, true_and, implies_true, List.take_succ_cons, List.take_zero])) | refine GR.of ?_); refine ⟨?_, rfl⟩; (try with_reducible rfl)
    simp [shapeOk, h]
  · repeat (first | (with_reducible first | refine SW.seq ?_ | refine SW.block ?_ | refine SW.rowC ?_ | refine SW.skip ?_ | refine SW.exit ?_ | refine PFn.use (within_fn _ _ _) ?_ | refine PFn.useq (within_fn _ _ _) ?_ | intro _ | refine And.intro (by omega) ?_) | simp (config := { maxSteps := 1000000 }) (disch := (first | omega | (simp only [go_sem]; try omega))) only [go_sem, Nat.reduceAdd, Nat.reduceEqDiff, Nat.reduceLeDiff, Nat.reduceMul, Nat.reduceLT, reduceIte, Int.reduceToNat, w64_id, cast_succ, h])
    refine SW.ret ?_; (try simp only [go_sem]); (first | refine FunPost.one ?_ | refine FunPost.two ?_ | refine FunPost.three ?_); (try simp (config := { maxSteps := 1000000 }) (disch := (first | omega | (simp only [go_sem]; try omega))) only [go_sem, Nat.reduceAdd, Nat.reduceEqDiff, Nat.reduceLeDiff, Nat.reduceMul, Nat.reduceLT, reduceIte, Int.reduceToNat, w64_id, cast_succ]); (first | (with_reducible refine GR.drop ?_ ?_; (simp only [go_sem, and_self, and_true, true_and, implies_true, List.take_succ_cons, List.take_zero])) | refine GR.of ?_); refine ⟨?_, rfl⟩; (try with_reducible rfl)
    simp [shapeOk, h]
abbrev tyArr : Nat := 27
theorem ValidArray_c1_ok (H : List Blk) (p : Nat) (l c : Int) (a : AV) (x : Int) (hl : 2 ≤ l ∧ l ≤ 16) (hp : H[p]? = some ⟨0, 27, 1, [I l, I c, a]⟩) :
    ACalls Try.prog f_impl_ValidArray_c1 [I x, .pc p 0 0] H (fun r H' => r = Bv (!(decide (0 ≤ x) && decide (x ≤ l - 1))) ∧ H' = H) := by
  refine ACalls.introB s_impl_ValidArray_c1 (by simp) ?_; intro hB hA; unfold c_impl_ValidArray_c1; simp (config := { maxSteps := 1000000 }) (disch := (first | omega | (simp only [go_sem]; try omega))) only [go_sem, Nat.reduceAdd, Nat.reduceEqDiff, Nat.reduceLeDiff, Nat.reduceMul, Nat.reduceLT, reduceIte, Int.reduceToNat, w64_id, cast_succ]
  repeat (first | (with_reducible first | refine SW.seq ?_ | refine SW.block ?_ | refine SW.rowC ?_ | refine SW.skip ?_ | refine SW.exit ?_ | refine PFn.use (within_fn _ _ _) ?_ | refine PFn.useq (within_fn _ _ _) ?_ | intro _ | refine And.intro (by omega) ?_) | simp (config := { maxSteps := 1000000 }) (disch := (first | omega | (simp only [go_sem]; try omega))) only [go_sem, Nat.reduceAdd, Nat.reduceEqDiff, Nat.reduceLeDiff, Nat.reduceMul, Nat.reduceLT, reduceIte, Int.reduceToNat, w64_id, cast_succ, pc_ld hp, pc_alive hp])
  refine SW.ret ?_; (try simp only [go_sem]); (first | refine FunPost.one ?_ | refine FunPost.two ?_ | refine FunPost.three ?_); (try simp (config := { maxSteps := 1000000 }) (disch := (first | omega | (simp only [go_sem]; try omega))) only [go_sem, Nat.reduceAdd, Nat.reduceEqDiff, Nat.reduceLeDiff, Nat.reduceMul, Nat.reduceLT, reduceIte, Int.reduceToNat, w64_id, cast_succ]); (first | (with_reducible refine GR.drop ?_ ?_; (simp only [go_sem, and_self, and_true, true_and, implies_true, List.take_succ_cons, List.take_zero])) | refine GR.of ?_); refine ⟨?_, rfl⟩; (try with_reducible rfl)
theorem ValidArray_fn (l c : Int) (rows : List (List Int)) : PFn Try.prog f_impl_ValidArray [.agg [I l, I c, ilSS rows]] (Bv (arrayOk l c rows)) := by
  intro H; refine ACalls.introB s_impl_ValidArray (by simp) ?_; intro hB hA; unfold c_impl_ValidArray; simp (config := { maxSteps := 1000000 }) (disch := (first | omega | (simp only [go_sem]; try omega))) only [go_sem, Nat.reduceAdd, Nat.reduceEqDiff, Nat.reduceLeDiff, Nat.reduceMul, Nat.reduceLT, reduceIte, Int.reduceToNat, w64_id, cast_succ]
  cases hs : shapeOk l c with
  | false =>
    repeat (first | (with_reducible first | refine SW.seq ?_ | refine SW.block ?_ | refine SW.rowC ?_ | refine SW.skip ?_ | refine SW.exit ?_ | refine PFn.use (isShape_fn l c) ?_ | refine PFn.useq (isShape_fn l c) ?_ | intro _ | refine And.intro (by omega) ?_) | simp (config := { maxSteps := 1000000 }) (disch := (first | omega | (simp only [go_sem]; try omega))) only [go_sem, Nat.reduceAdd, Nat.reduceEqDiff, Nat.reduceLeDiff, Nat.reduceMul, Nat.reduceLT, reduceIte, Int.reduceToNat, w64_id, cast_succ, hs])
    refine SW.condT rfl ?_
    repeat (first | (with_reducible first | refine SW.seq ?_ | refine SW.block ?_ | refine SW.rowC ?_ | refine SW.skip ?_ | refine SW.exit ?_ | intro _ | refine And.intro (by omega) ?_) | simp (config := { maxSteps := 1000000 }) (disch := (first | omega | (simp only [go_sem]; try omega))) only [go_sem, Nat.reduceAdd, Nat.reduceEqDiff, Nat.reduceLeDiff, Nat.reduceMul, Nat.reduceLT, reduceIte, Int.reduceToNat, w64_id, cast_succ])
    refine SW.ret ?_; (try simp only [go_sem]); (first | refine FunPost.one ?_ | refine FunPost.two ?_ | refine FunPost.three ?_); (try simp (config := { maxSteps := 1000000 }) (disch := (first | omega | (simp only [go_sem]; try omega))) only [go_sem, Nat.reduceAdd, Nat.reduceEqDiff, Nat.reduceLeDiff, Nat.reduceMul, Nat.reduceLT, reduceIte, Int.reduceToNat, w64_id, cast_succ]); (first | (with_reducible refine GR.drop ?_ ?_; (simp only [go_sem, and_self, and_true, true_and, implies_true, List.take_succ_cons, List.take_zero])) | refine GR.of ?_); refine ⟨?_, rfl⟩; (try with_reducible rfl)
    simp [arrayOk, hs]
  | true =>
    have hs2 := shapeOk_iff.1 hs
    repeat (first | (with_reducible first | refine SW.seq ?_ | refine SW.block ?_ | refine SW.rowC ?_ | refine SW.skip ?_ | refine SW.exit ?_ | refine PFn.use (isShape_fn l c) ?_ | refine PFn.useq (isShape_fn l c) ?_ | intro _ | refine And.intro (by omega) ?_) | simp (config := { maxSteps := 1000000 }) (disch := (first | omega | (simp only [go_sem]; try omega))) only [go_sem, Nat.reduceAdd, Nat.reduceEqDiff, Nat.reduceLeDiff, Nat.reduceMul, Nat.reduceLT, reduceIte, Int.reduceToNat, w64_id, cast_succ, hs])
    (first | refine SW.condD rfl (fun h => ?_) (fun h => ?_) | refine SW.condN rfl (fun h => ?_) (fun h => ?_) | refine SW.condNB rfl (fun h => ?_) (fun h => ?_) | refine SW.condB rfl (fun h => ?_) (fun h => ?_))
    · repeat (first | (with_reducible first | refine SW.seq ?_ | refine SW.block ?_ | refine SW.rowC ?_ | refine SW.skip ?_ | refine SW.exit ?_ | intro _ | refine And.intro (by omega) ?_) | simp (config := { maxSteps := 1000000 }) (disch := (first | omega | (simp only [go_sem]; try omega))) only [go_sem, Nat.reduceAdd, Nat.reduceEqDiff, Nat.reduceLeDiff, Nat.reduceMul, Nat.reduceLT, reduceIte, Int.reduceToNat, w64_id, cast_succ])
      refine SW.ret ?_; (try simp only [go_sem]); (first | refine FunPost.one ?_ | refine FunPost.two ?_ | refine FunPost.three ?_); (try simp (config := { maxSteps := 1000000 }) (disch := (first | omega | (simp only [go_sem]; try omega))) only [go_sem, Nat.reduceAdd, Nat.reduceEqDiff, Nat.reduceLeDiff, Nat.reduceMul, Nat.reduceLT, reduceIte, Int.reduceToNat, w64_id, cast_succ]); (first | (with_reducible refine GR.drop ?_ ?_; (simp only [go_sem, and_self, and_true, true_and, implies_true, List.take_succ_cons, List.take_zero])) | refine GR.of ?_); refine ⟨?_, rfl⟩; (try with_reducible rfl)
      simp [arrayOk, show ¬ rows.length ≤ 256 by omega]
    · repeat (first | (with_reducible first | refine SW.seq ?_ | refine SW.block ?_ | refine SW.rowC ?_ | refine SW.skip ?_ | refine SW.exit ?_ | intro _ | refine And.intro (by omega) ?_) | simp (config := { maxSteps := 1000000 }) (disch := (first | omega | (simp only [go_sem]; try omega))) only [go_sem, Nat.reduceAdd, Nat.reduceEqDiff, Nat.reduceLeDiff, Nat.reduceMul, Nat.reduceLT, reduceIte, Int.reduceToNat, w64_id, cast_succ])
      refine SW.loopE (fun E0 H0 q E' H' => ∃ (pre post : List (List Int)), rows = pre ++ post ∧ q = post.length ∧ E' = aput E0 20 (I pre.length) ∧ H' = H0 ∧ pre.all (rowOk l c) = true) rows.length ⟨[], rows, rfl, rfl, rfl, rfl, rfl⟩ ?_
      rintro q E' H' ⟨pre, post, hp, rfl, rfl, rfl, ha⟩
      simp (config := { maxSteps := 1000000 }) (disch := (first | omega | (simp only [go_sem]; try omega))) only [go_sem, Nat.reduceAdd, Nat.reduceEqDiff, Nat.reduceLeDiff, Nat.reduceMul, Nat.reduceLT, reduceIte, Int.reduceToNat, w64_id, cast_succ]
      repeat (first | (with_reducible first | refine SW.seq ?_ | refine SW.block ?_ | refine SW.rowC ?_ | refine SW.skip ?_ | refine SW.exit ?_ | intro _ | refine And.intro (by omega) ?_) | simp (config := { maxSteps := 1000000 }) (disch := (first | omega | (simp only [go_sem]; try omega))) only [go_sem, Nat.reduceAdd, Nat.reduceEqDiff, Nat.reduceLeDiff, Nat.reduceMul, Nat.reduceLT, reduceIte, Int.reduceToNat, w64_id, cast_succ])
      (first | refine SW.condD rfl (fun h3 => ?_) (fun h3 => ?_) | refine SW.condN rfl (fun h3 => ?_) (fun h3 => ?_) | refine SW.condNB rfl (fun h3 => ?_) (fun h3 => ?_) | refine SW.condB rfl (fun h3 => ?_) (fun h3 => ?_))
      · cases post with
        | nil => exfalso; simp at hp; subst hp; omega
        | cons x post =>
          have hg : rows.getD pre.length [] = x := by subst hp; simp
          by_cases hl : (x.length : Int) = c
          · repeat (first | (with_reducible first | refine SW.seq ?_ | refine SW.block ?_ | refine SW.rowC ?_ | refine SW.skip ?_ | refine SW.exit ?_ | refine PFn.use (size_fn _) ?_ | refine PFn.useq (size_fn _) ?_ | intro _ | refine And.intro (by omega) ?_) | simp (config := { maxSteps := 1000000 }) (disch := (first | omega | (simp only [go_sem]; try omega))) only [go_sem, Nat.reduceAdd, Nat.reduceEqDiff, Nat.reduceLeDiff, Nat.reduceMul, Nat.reduceLT, reduceIte, Int.reduceToNat, w64_id, cast_succ, hg, hl])
            refine QcallW.of (fun ext => conS_ok I _ _ x rfl _ _ (by kernel_rfl) (fun y => !(decide (0 ≤ y) && decide (y ≤ l - 1))) (fun y _ => ValidArray_c1_ok _ H.length l c _ y ⟨hs2.1, hs2.2.1⟩ (by simp; rfl))) ?_
            have ex : x.any (fun y => !(decide (0 ≤ y) && decide (y ≤ l - 1))) = !rowOk l c x := by simp [rowOk, hl, List.any_eq_not_all_not]
            rw [ex]
            repeat (first | (with_reducible first | refine SW.seq ?_ | refine SW.block ?_ | refine SW.rowC ?_ | refine SW.skip ?_ | refine SW.exit ?_ | intro _ | refine And.intro (by omega) ?_) | simp (config := { maxSteps := 1000000 }) (disch := (first | omega | (simp only [go_sem]; try omega))) only [go_sem, Nat.reduceAdd, Nat.reduceEqDiff, Nat.reduceLeDiff, Nat.reduceMul, Nat.reduceLT, reduceIte, Int.reduceToNat, w64_id, cast_succ])
            (first | refine SW.condD rfl (fun h4 => ?_) (fun h4 => ?_) | refine SW.condN rfl (fun h4 => ?_) (fun h4 => ?_) | refine SW.condNB rfl (fun h4 => ?_) (fun h4 => ?_) | refine SW.condB rfl (fun h4 => ?_) (fun h4 => ?_))
            · repeat (first | (with_reducible first | refine SW.seq ?_ | refine SW.block ?_ | refine SW.rowC ?_ | refine SW.skip ?_ | refine SW.exit ?_ | intro _ | refine And.intro (by omega) ?_) | simp (config := { maxSteps := 1000000 }) (disch := (first | omega | (simp only [go_sem]; try omega))) only [go_sem, Nat.reduceAdd, Nat.reduceEqDiff, Nat.reduceLeDiff, Nat.reduceMul, Nat.reduceLT, reduceIte, Int.reduceToNat, w64_id, cast_succ])
              refine SW.ret ?_; (try simp only [go_sem]); (first | refine FunPost.one ?_ | refine FunPost.two ?_ | refine FunPost.three ?_); (try simp (config := { maxSteps := 1000000 }) (disch := (first | omega | (simp only [go_sem]; try omega))) only [go_sem, Nat.reduceAdd, Nat.reduceEqDiff, Nat.reduceLeDiff, Nat.reduceMul, Nat.reduceLT, reduceIte, Int.reduceToNat, w64_id, cast_succ]); (first | (with_reducible refine GR.drop ?_ ?_; (simp only [go_sem, and_self, and_true, true_and, implies_true, List.take_succ_cons, List.take_zero])) | refine GR.of ?_); refine ⟨?_, rfl⟩; (try with_reducible rfl)
              subst hp
              simp [arrayOk, h4]
            · repeat (first | (with_reducible first | refine SW.seq ?_ | refine SW.block ?_ | refine SW.rowC ?_ | refine SW.skip ?_ | refine SW.exit ?_ | intro _ | refine And.intro (by omega) ?_) | simp (config := { maxSteps := 1000000 }) (disch := (first | omega | (simp only [go_sem]; try omega))) only [go_sem, Nat.reduceAdd, Nat.reduceEqDiff, Nat.reduceLeDiff, Nat.reduceMul, Nat.reduceLT, reduceIte, Int.reduceToNat, w64_id, cast_succ])
              refine SLoop.next post.length (by simp) ⟨pre ++ [x], post, by simp [hp], rfl, ?_, rfl, ?_⟩
              · simp [go_sem]
              · simp [ha, h4]
          · repeat (first | (with_reducible first | refine SW.seq ?_ | refine SW.block ?_ | refine SW.rowC ?_ | refine SW.skip ?_ | refine SW.exit ?_ | refine PFn.use (size_fn _) ?_ | refine PFn.useq (size_fn _) ?_ | intro _ | refine And.intro (by omega) ?_) | simp (config := { maxSteps := 1000000 }) (disch := (first | omega | (simp only [go_sem]; try omega))) only [go_sem, Nat.reduceAdd, Nat.reduceEqDiff, Nat.reduceLeDiff, Nat.reduceMul, Nat.reduceLT, reduceIte, Int.reduceToNat, w64_id, cast_succ, hg, hl])
            refine SW.condT rfl ?_
            repeat (first | (with_reducible first | refine SW.seq ?_ | refine SW.block ?_ | refine SW.rowC ?_ | refine SW.skip ?_ | refine SW.exit ?_ | intro _ | refine And.intro (by omega) ?_) | simp (config := { maxSteps := 1000000 }) (disch := (first | omega | (simp only [go_sem]; try omega))) only [go_sem, Nat.reduceAdd, Nat.reduceEqDiff, Nat.reduceLeDiff, Nat.reduceMul, Nat.reduceLT, reduceIte, Int.reduceToNat, w64_id, cast_succ])
            refine SW.ret ?_; (try simp only [go_sem]); (first | refine FunPost.one ?_ | refine FunPost.two ?_ | refine FunPost.three ?_); (try simp (config := { maxSteps := 1000000 }) (disch := (first | omega | (simp only [go_sem]; try omega))) only [go_sem, Nat.reduceAdd, Nat.reduceEqDiff, Nat.reduceLeDiff, Nat.reduceMul, Nat.reduceLT, reduceIte, Int.reduceToNat, w64_id, cast_succ]); (first | (with_reducible refine GR.drop ?_ ?_; (simp only [go_sem, and_self, and_true, true_and, implies_true, List.take_succ_cons, List.take_zero])) | refine GR.of ?_); refine ⟨?_, rfl⟩; (try with_reducible rfl)
            subst hp
            simp [arrayOk, rowOk, hl]
      · repeat (first | (with_reducible first | refine SW.seq ?_ | refine SW.block ?_ | refine SW.rowC ?_ | refine SW.skip ?_ | refine SW.exit ?_ | intro _ | refine And.intro (by omega) ?_) | simp (config := { maxSteps := 1000000 }) (disch := (first | omega | (simp only [go_sem]; try omega))) only [go_sem, Nat.reduceAdd, Nat.reduceEqDiff, Nat.reduceLeDiff, Nat.reduceMul, Nat.reduceLT, reduceIte, Int.reduceToNat, w64_id, cast_succ])
        refine SW.ret ?_; (try simp only [go_sem]); (first | refine FunPost.one ?_ | refine FunPost.two ?_ | refine FunPost.three ?_); (try simp (config := { maxSteps := 1000000 }) (disch := (first | omega | (simp only [go_sem]; try omega))) only [go_sem, Nat.reduceAdd, Nat.reduceEqDiff, Nat.reduceLeDiff, Nat.reduceMul, Nat.reduceLT, reduceIte, Int.reduceToNat, w64_id, cast_succ]); (first | (with_reducible refine GR.drop ?_ ?_; (simp only [go_sem, and_self, and_true, true_and, implies_true, List.take_succ_cons, List.take_zero])) | refine GR.of ?_); refine ⟨?_, rfl⟩; (try with_reducible rfl)
        have : post = [] := by cases post with
          | nil => rfl
          | cons x post => exfalso; subst hp; simp at h3; omega
        subst this
        simp at hp; subst hp
        simp [arrayOk, ha, hs, show rows.length ≤ 256 by omega]
end Go.Proofs.Ythogadbnddmkdaa
