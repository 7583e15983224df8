/- Systems compared; all permutations; copies. -/
import Derived.Test.YthogadbnddmkdaaGreatProg
import Derived.KernelRfl
import Derived.Test.YthogadbnddmkdaaGreatzK62
import Derived.Test.YthogadbnddmkdaaGreatzK66
import Derived.Test.YthogadbnddmkdaaGreatzM2
import Derived.Test.YthogadbnddmkdaaGreatzC1
import Derived.Test.YthogadbnddmkdaaGreatzOW
set_option linter.unusedSimpArgs false
set_option linter.unusedVariables false
set_option maxHeartbeats 4000000
set_option maxRecDepth 100000
namespace Go.Proofs.YthogadbnddmkdaaGreat
open Go.Av
abbrev f_impl_allPermutations : Nat := 44
def c_impl_allPermutations : SC :=
 .seq (.reg [
     ⟨(some 2), .mv (.const (.slice none 0 0)), none⟩] [0])
 (.seq (.reg [
     ⟨(some 3), .mv (.const (.slice none 0 0)), none⟩] [0, 3])
 (.seq (.seq (.reg [
     ⟨(some 7), .mv (.tmp 0), none⟩,
     ⟨(some 8), .call 91 [(.tmp 7)], none⟩,
     ⟨(some 9), .mv (.const (.int .i64 0)), none⟩] [0, 3, 8, 9])
 (.block 0 (.loop [0, 3, 8, 9]
   (.seq (.reg [
       ⟨(some 10), .bin .lss (.tmp 9) (.tmp 8), none⟩] [0, 3, 8, 9, 10])
   (.seq (.cond (.tmp 10)
    (.skip)
    (.exit 0))
   (.seq (.block 1 (.seq (.reg [
        ⟨(some 11), .mv (.tmp 9), none⟩,
        ⟨(some 4), .mv (.tmp 11), none⟩] [0, 3, 4, 8, 9])
    (.seq (.reg [
        ⟨(some 13), .mv (.tmp 0), none⟩,
        ⟨(some 14), .mv (.tmp 4), none⟩,
        ⟨(some 15), .call 92 [(.tmp 13), (.tmp 14)], none⟩,
        ⟨(some 12), .mv (.tmp 15), none⟩,
        ⟨(some 16), .ext (.tmp 12) 0, none⟩,
        ⟨(some 17), .ext (.tmp 12) 1, none⟩,
        ⟨(some 5), .mv (.tmp 16), none⟩,
        ⟨(some 6), .mv (.tmp 17), none⟩] [0, 3, 5, 8, 9])
    (.reg [
        ⟨(some 18), .mv (.tmp 3), none⟩,
        ⟨(some 19), .mv (.tmp 5), none⟩,
        ⟨(some 20), .bslice 50 1 1 [(.slice none 0 0)] [(0, (.tmp 19))], none⟩,
        ⟨(some 21), .app 50 1 24 (.tmp 18) (.tmp 20), none⟩,
        ⟨(some 3), .mv (.tmp 21), none⟩] [0, 3, 8, 9]))))
   (.reg [
       ⟨(some 22), .bin .add (.tmp 9) (.const (.int .i64 1)), none⟩,
       ⟨(some 9), .mv (.tmp 22), none⟩] [0, 3, 8, 9])))))))
 (.seq (.reg [
     ⟨(some 23), .mv (.tmp 3), none⟩,
     ⟨(some 2), .mv (.tmp 23), none⟩] [2])
 (.ret))))
theorem s_impl_allPermutations : stripF Tryz.prog 44 [[0], [0, 3], [0, 3, 8, 9], [0, 3, 8, 9], [0, 3, 8, 9, 10], [0, 3, 4, 8, 9], [0, 3, 5, 8, 9], [0, 3, 8, 9], [0, 3, 8, 9], [2]] = some (c_impl_allPermutations, [.tmp 2], 24) := by kernel_rfl
abbrev f_impl_compareSystems : Nat := 45
def c_impl_compareSystems : SC :=
 .seq (.reg [
     ⟨(some 4), .mv (.const (.int .i64 0)), none⟩] [0, 1])
 (.seq (.reg [
     ⟨(some 5), .mv (.tmp 0), none⟩,
     ⟨(some 6), .mv (.tmp 1), none⟩,
     ⟨(some 7), .call 93 [(.tmp 5), (.tmp 6), (.func 65)], none⟩,
     ⟨(some 4), .mv (.tmp 7), none⟩] [4])
 (.ret))
theorem s_impl_compareSystems : stripF Tryz.prog 45 [[0, 1], [4]] = some (c_impl_compareSystems, [.tmp 4], 8) := by kernel_rfl
abbrev f_slices_CompareFunc_LLint64_LLint64_Lint64_Lint64 : Nat := 93
def c_slices_CompareFunc_LLint64_LLint64_Lint64_Lint64 : SC :=
 .seq (.reg [
     ⟨(some 6), .mv (.const (.int .i64 0)), none⟩] [0, 1, 2])
 (.seq (.seq (.reg [
     ⟨(some 11), .mv (.tmp 0), none⟩,
     ⟨(some 12), .len (.tmp 11), none⟩,
     ⟨(some 13), .mv (.const (.int .i64 0)), none⟩] [0, 1, 2, 11, 12, 13])
 (.block 0 (.loop [0, 1, 2, 11, 12, 13]
   (.seq (.reg [
       ⟨(some 14), .bin .lss (.tmp 13) (.tmp 12), none⟩] [0, 1, 2, 11, 12, 13, 14])
   (.seq (.cond (.tmp 14)
    (.skip)
    (.exit 0))
   (.seq (.block 1 (.seq (.reg [
        ⟨(some 15), .mv (.tmp 13), none⟩,
        ⟨(some 16), .iaddr 1 (.tmp 11) (.tmp 13), none⟩,
        ⟨(some 17), .load 1 false (.tmp 16), none⟩,
        ⟨(some 7), .mv (.tmp 15), none⟩,
        ⟨(some 8), .mv (.tmp 17), none⟩] [0, 1, 2, 7, 8, 11, 12, 13])
    (.seq (.seq (.reg [
        ⟨(some 18), .mv (.tmp 7), none⟩,
        ⟨(some 19), .mv (.tmp 1), none⟩,
        ⟨(some 20), .len (.tmp 19), none⟩,
        ⟨(some 21), .bin .geq (.tmp 18) (.tmp 20), none⟩] [0, 1, 2, 7, 8, 11, 12, 13, 21])
    (.cond (.tmp 21)
     (.seq (.reg [
         ⟨(some 6), .mv (.const (.int .i64 1)), none⟩] [6])
     (.ret))
     (.skip)))
    (.seq (.reg [
        ⟨(some 22), .mv (.tmp 1), none⟩,
        ⟨(some 23), .mv (.tmp 7), none⟩,
        ⟨(some 24), .iaddr 1 (.tmp 22) (.tmp 23), none⟩,
        ⟨(some 25), .load 1 false (.tmp 24), none⟩,
        ⟨(some 9), .mv (.tmp 25), none⟩] [0, 1, 2, 8, 9, 11, 12, 13])
    (.seq (.reg [
        ⟨(some 26), .mv (.tmp 2), none⟩,
        ⟨(some 27), .mv (.tmp 8), none⟩,
        ⟨(some 28), .mv (.tmp 9), none⟩,
        ⟨(some 29), .callv (.tmp 26) [(.tmp 27), (.tmp 28)], none⟩,
        ⟨(some 10), .mv (.tmp 29), none⟩] [0, 1, 2, 10, 11, 12, 13])
    (.seq (.reg [
        ⟨(some 30), .mv (.tmp 10), none⟩,
        ⟨(some 31), .bin .neq (.tmp 30) (.const (.int .i64 0)), none⟩] [0, 1, 2, 10, 11, 12, 13, 31])
    (.cond (.tmp 31)
     (.seq (.reg [
         ⟨(some 32), .mv (.tmp 10), none⟩,
         ⟨(some 6), .mv (.tmp 32), none⟩] [6])
     (.ret))
     (.skip))))))))
   (.reg [
       ⟨(some 33), .bin .add (.tmp 13) (.const (.int .i64 1)), none⟩,
       ⟨(some 13), .mv (.tmp 33), none⟩] [0, 1, 2, 11, 12, 13])))))))
 (.seq (.seq (.reg [
     ⟨(some 34), .mv (.tmp 0), none⟩,
     ⟨(some 35), .len (.tmp 34), none⟩,
     ⟨(some 36), .mv (.tmp 1), none⟩,
     ⟨(some 37), .len (.tmp 36), none⟩,
     ⟨(some 38), .bin .lss (.tmp 35) (.tmp 37), none⟩] [38])
 (.cond (.tmp 38)
  (.seq (.reg [
      ⟨(some 6), .mv (.const (.int .i64 (-1))), none⟩] [6])
  (.ret))
  (.skip)))
 (.seq (.reg [
     ⟨(some 6), .mv (.const (.int .i64 0)), none⟩] [6])
 (.ret))))
theorem s_slices_CompareFunc_LLint64_LLint64_Lint64_Lint64 : stripF Tryz.prog 93 [[0, 1, 2], [0, 1, 2, 11, 12, 13], [0, 1, 2, 11, 12, 13], [0, 1, 2, 11, 12, 13, 14], [0, 1, 2, 7, 8, 11, 12, 13], [0, 1, 2, 7, 8, 11, 12, 13, 21], [6], [0, 1, 2, 8, 9, 11, 12, 13], [0, 1, 2, 10, 11, 12, 13], [0, 1, 2, 10, 11, 12, 13, 31], [6], [0, 1, 2, 11, 12, 13], [38], [6], [6]] = some (c_slices_CompareFunc_LLint64_LLint64_Lint64_Lint64, [.tmp 6], 39) := by kernel_rfl
abbrev f_spec_l27Compare : Nat := 101
def c_spec_l27Compare : SC :=
 .seq (.reg [
     ⟨(some 4), .mv (.const (.int .i64 0)), none⟩] [0, 1])
 (.seq (.seq (.reg [
     ⟨(some 5), .mv (.const (.int .i64 0)), none⟩] [0, 1, 5])
 (.block 0 (.loop [0, 1, 5]
   (.seq (.seq (.reg [
       ⟨(some 7), .mv (.tmp 5), none⟩,
       ⟨(some 8), .mv (.tmp 0), none⟩,
       ⟨(some 9), .len (.tmp 8), none⟩,
       ⟨(some 10), .bin .lss (.tmp 7) (.tmp 9), none⟩,
       ⟨(some 11), .mv (.tmp 10), none⟩,
       ⟨(some 12), .mv (.tmp 5), (some (11, true))⟩,
       ⟨(some 13), .mv (.tmp 1), (some (11, true))⟩,
       ⟨(some 14), .len (.tmp 13), (some (11, true))⟩,
       ⟨(some 15), .bin .lss (.tmp 12) (.tmp 14), (some (11, true))⟩,
       ⟨(some 16), .pick (.tmp 11) (.tmp 15) (.const (.bool false)), none⟩] [0, 1, 5, 16])
   (.cond (.tmp 16)
    (.skip)
    (.exit 0)))
   (.seq (.block 1 (.seq (.reg [
        ⟨(some 19), .mv (.tmp 0), none⟩,
        ⟨(some 20), .mv (.tmp 5), none⟩,
        ⟨(some 21), .iaddr 1 (.tmp 19) (.tmp 20), none⟩,
        ⟨(some 22), .load 1 false (.tmp 21), none⟩,
        ⟨(some 23), .mv (.tmp 1), none⟩,
        ⟨(some 24), .mv (.tmp 5), none⟩,
        ⟨(some 25), .iaddr 1 (.tmp 23) (.tmp 24), none⟩,
        ⟨(some 26), .load 1 false (.tmp 25), none⟩,
        ⟨(some 27), .qcall 102 [(.tmp 22), (.tmp 26)], none⟩,
        ⟨(some 6), .mv (.tmp 27), none⟩] [0, 1, 5, 6])
    (.seq (.reg [
        ⟨(some 28), .mv (.tmp 6), none⟩,
        ⟨(some 29), .bin .neq (.tmp 28) (.const (.int .i64 0)), none⟩] [0, 1, 5, 6, 29])
    (.cond (.tmp 29)
     (.seq (.reg [
         ⟨(some 30), .mv (.tmp 6), none⟩,
         ⟨(some 4), .mv (.tmp 30), none⟩] [4])
     (.ret))
     (.skip)))))
   (.reg [
       ⟨(some 17), .mv (.tmp 5), none⟩,
       ⟨(some 18), .bin .add (.tmp 17) (.const (.int .i64 1)), none⟩,
       ⟨(some 5), .mv (.tmp 18), none⟩] [0, 1, 5]))))))
 (.seq (.reg [
     ⟨(some 4), .mv (.const (.int .i64 0)), none⟩] [4])
 (.ret)))
theorem s_spec_l27Compare : stripF Tryz.prog 101 [[0, 1], [0, 1, 5], [0, 1, 5], [0, 1, 5, 16], [0, 1, 5, 6], [0, 1, 5, 6, 29], [4], [0, 1, 5], [4]] = some (c_spec_l27Compare, [.tmp 4], 31) := by kernel_rfl
theorem cmpSS_step (a : List (List Int)) (b : List (List Int)) (x : List Int) (i : Nat) (h : i < b.length) : cmpSS (x :: a) (b.drop i) = if cmpL x (b.getD i []) = 0 then cmpSS a (b.drop (i + 1)) else cmpL x (b.getD i []) := by
  rw [List.drop_eq_getElem_cons h, cmpSS]
  simp [List.getElem?_eq_getElem h]
theorem CompareFunc_fn (a b : List (List Int)) : PFn Tryz.prog f_slices_CompareFunc_LLint64_LLint64_Lint64_Lint64 [ilSS a, ilSS b, .fn f_slices_Compare_Lint64_int64 []] (I (cmpSS a b)) := by
  intro H; refine ACalls.introB s_slices_CompareFunc_LLint64_LLint64_Lint64_Lint64 (by simp) ?_; intro hB hA; unfold c_slices_CompareFunc_LLint64_LLint64_Lint64_Lint64; simp (config := { maxSteps := 1000000 }) (disch := (first | omega | (simp only [go_sem]; try omega))) only [go_sem, Nat.reduceAdd, Nat.reduceEqDiff, Nat.reduceLeDiff, Nat.reduceMul, Nat.reduceLT, reduceIte, Int.reduceToNat, w64_id, cast_succ]
  have hcb := slicesCompare_call
  repeat (first | (with_reducible first | refine SW.seq ?_ | refine SW.block ?_ | refine SW.rowC ?_ | refine SW.skip ?_ | refine SW.exit ?_ | intro _ | refine And.intro (by omega) ?_) | simp (config := { maxSteps := 1000000 }) (disch := (first | omega | (simp only [go_sem]; try omega))) only [go_sem, Nat.reduceAdd, Nat.reduceEqDiff, Nat.reduceLeDiff, Nat.reduceMul, Nat.reduceLT, reduceIte, Int.reduceToNat, w64_id, cast_succ])
  refine SW.loopE (fun E0 H0 q E' H' => ∃ (pre post : List (List Int)), a = pre ++ post ∧ q = post.length ∧ E' = aput E0 13 (I pre.length) ∧ H' = H0 ∧ pre.length ≤ b.length ∧ cmpSS a b = cmpSS post (b.drop pre.length)) a.length ⟨[], a, rfl, rfl, rfl, rfl, by simp, by simp⟩ ?_
  rintro q E' H' ⟨pre, post, hpp, rfl, rfl, rfl, hpb, hc⟩
  simp (config := { maxSteps := 1000000 }) (disch := (first | omega | (simp only [go_sem]; try omega))) only [go_sem, Nat.reduceAdd, Nat.reduceEqDiff, Nat.reduceLeDiff, Nat.reduceMul, Nat.reduceLT, reduceIte, Int.reduceToNat, w64_id, cast_succ]
  repeat (first | (with_reducible first | refine SW.seq ?_ | refine SW.block ?_ | refine SW.rowC ?_ | refine SW.skip ?_ | refine SW.exit ?_ | intro _ | refine And.intro (by omega) ?_) | simp (config := { maxSteps := 1000000 }) (disch := (first | omega | (simp only [go_sem]; try omega))) only [go_sem, Nat.reduceAdd, Nat.reduceEqDiff, Nat.reduceLeDiff, Nat.reduceMul, Nat.reduceLT, reduceIte, Int.reduceToNat, w64_id, cast_succ])
  (first | refine SW.condD rfl (fun h => ?_) (fun h => ?_) | refine SW.condN rfl (fun h => ?_) (fun h => ?_) | refine SW.condNB rfl (fun h => ?_) (fun h => ?_) | refine SW.condB rfl (fun h => ?_) (fun h => ?_))
  · obtain ⟨x, post, rfl, hg, -⟩ := consOf (d := []) hpp (by omega)
    repeat (first | (with_reducible first | refine SW.seq ?_ | refine SW.block ?_ | refine SW.rowC ?_ | refine SW.skip ?_ | refine SW.exit ?_ | intro _ | refine And.intro (by omega) ?_) | simp (config := { maxSteps := 1000000 }) (disch := (first | omega | (simp only [go_sem]; try omega))) only [go_sem, Nat.reduceAdd, Nat.reduceEqDiff, Nat.reduceLeDiff, Nat.reduceMul, Nat.reduceLT, reduceIte, Int.reduceToNat, w64_id, cast_succ, hg])
    (first | refine SW.condD rfl (fun h2 => ?_) (fun h2 => ?_) | refine SW.condN rfl (fun h2 => ?_) (fun h2 => ?_) | refine SW.condNB rfl (fun h2 => ?_) (fun h2 => ?_) | refine SW.condB rfl (fun h2 => ?_) (fun h2 => ?_))
    · rw [List.drop_eq_nil_of_le (by omega)] at hc
      repeat (first | (with_reducible first | refine SW.seq ?_ | refine SW.block ?_ | refine SW.rowC ?_ | refine SW.skip ?_ | refine SW.exit ?_ | intro _ | refine And.intro (by omega) ?_) | simp (config := { maxSteps := 1000000 }) (disch := (first | omega | (simp only [go_sem]; try omega))) only [go_sem, Nat.reduceAdd, Nat.reduceEqDiff, Nat.reduceLeDiff, Nat.reduceMul, Nat.reduceLT, reduceIte, Int.reduceToNat, w64_id, cast_succ])
      refine SW.ret ?_; (try simp only [go_sem]); (first | refine FunPost.one ?_ | refine FunPost.two ?_ | refine FunPost.three ?_); (try simp (config := { maxSteps := 1000000 }) (disch := (first | omega | (simp only [go_sem]; try omega))) only [go_sem, Nat.reduceAdd, Nat.reduceEqDiff, Nat.reduceLeDiff, Nat.reduceMul, Nat.reduceLT, reduceIte, Int.reduceToNat, w64_id, cast_succ]); (first | (with_reducible refine GR.drop ?_ ?_; (simp only [go_sem, and_self, and_true, true_and, implies_true, List.take_succ_cons, List.take_zero])) | refine GR.of ?_); refine ⟨?_, rfl⟩; (try with_reducible rfl)
      rw [hc]; rfl
    · rw [cmpSS_step _ _ _ _ (by omega)] at hc
      repeat (first | (with_reducible first | refine SW.seq ?_ | refine SW.block ?_ | refine SW.rowC ?_ | refine SW.skip ?_ | refine SW.exit ?_ | refine PFn.use (slicesCompare_fn _ _) ?_ | refine PFn.useq (slicesCompare_fn _ _) ?_ | intro _ | refine And.intro (by omega) ?_) | simp (config := { maxSteps := 1000000 }) (disch := (first | omega | (simp only [go_sem]; try omega))) only [go_sem, Nat.reduceAdd, Nat.reduceEqDiff, Nat.reduceLeDiff, Nat.reduceMul, Nat.reduceLT, reduceIte, Int.reduceToNat, w64_id, cast_succ, hg, hcb])
      by_cases h0 : cmpL x (b.getD pre.length []) = 0
      · rw [if_pos h0] at hc
        have hd : decide (cmpL x (b.getD pre.length []) = 0) = true := decide_eq_true h0
        repeat (first | (with_reducible first | refine SW.seq ?_ | refine SW.block ?_ | refine SW.rowC ?_ | refine SW.skip ?_ | refine SW.exit ?_ | intro _ | refine And.intro (by omega) ?_) | simp (config := { maxSteps := 1000000 }) (disch := (first | omega | (simp only [go_sem]; try omega))) only [go_sem, Nat.reduceAdd, Nat.reduceEqDiff, Nat.reduceLeDiff, Nat.reduceMul, Nat.reduceLT, reduceIte, Int.reduceToNat, w64_id, cast_succ, hd])
        refine SW.condF rfl ?_
        repeat (first | (with_reducible first | refine SW.seq ?_ | refine SW.block ?_ | refine SW.rowC ?_ | refine SW.skip ?_ | refine SW.exit ?_ | intro _ | refine And.intro (by omega) ?_) | simp (config := { maxSteps := 1000000 }) (disch := (first | omega | (simp only [go_sem]; try omega))) only [go_sem, Nat.reduceAdd, Nat.reduceEqDiff, Nat.reduceLeDiff, Nat.reduceMul, Nat.reduceLT, reduceIte, Int.reduceToNat, w64_id, cast_succ])
        refine SLoop.next post.length (by simp) ⟨pre ++ [x], post, by simp [hpp], rfl, by simp [go_sem], rfl, by simp; omega, by rw [hc]; simp⟩
      · rw [if_neg h0] at hc
        have hd : decide (cmpL x (b.getD pre.length []) = 0) = false := decide_eq_false h0
        repeat (first | (with_reducible first | refine SW.seq ?_ | refine SW.block ?_ | refine SW.rowC ?_ | refine SW.skip ?_ | refine SW.exit ?_ | intro _ | refine And.intro (by omega) ?_) | simp (config := { maxSteps := 1000000 }) (disch := (first | omega | (simp only [go_sem]; try omega))) only [go_sem, Nat.reduceAdd, Nat.reduceEqDiff, Nat.reduceLeDiff, Nat.reduceMul, Nat.reduceLT, reduceIte, Int.reduceToNat, w64_id, cast_succ, hd])
        refine SW.condT rfl ?_
        repeat (first | (with_reducible first | refine SW.seq ?_ | refine SW.block ?_ | refine SW.rowC ?_ | refine SW.skip ?_ | refine SW.exit ?_ | intro _ | refine And.intro (by omega) ?_) | simp (config := { maxSteps := 1000000 }) (disch := (first | omega | (simp only [go_sem]; try omega))) only [go_sem, Nat.reduceAdd, Nat.reduceEqDiff, Nat.reduceLeDiff, Nat.reduceMul, Nat.reduceLT, reduceIte, Int.reduceToNat, w64_id, cast_succ])
        refine SW.ret ?_; (try simp only [go_sem]); (first | refine FunPost.one ?_ | refine FunPost.two ?_ | refine FunPost.three ?_); (try simp (config := { maxSteps := 1000000 }) (disch := (first | omega | (simp only [go_sem]; try omega))) only [go_sem, Nat.reduceAdd, Nat.reduceEqDiff, Nat.reduceLeDiff, Nat.reduceMul, Nat.reduceLT, reduceIte, Int.reduceToNat, w64_id, cast_succ]); (first | (with_reducible refine GR.drop ?_ ?_; (simp only [go_sem, and_self, and_true, true_and, implies_true, List.take_succ_cons, List.take_zero])) | refine GR.of ?_); refine ⟨?_, rfl⟩; (try with_reducible rfl)
        rw [hc]
  · obtain ⟨rfl, rfl⟩ := nilOf hpp (by omega)
    repeat (first | (with_reducible first | refine SW.seq ?_ | refine SW.block ?_ | refine SW.rowC ?_ | refine SW.skip ?_ | refine SW.exit ?_ | intro _ | refine And.intro (by omega) ?_) | simp (config := { maxSteps := 1000000 }) (disch := (first | omega | (simp only [go_sem]; try omega))) only [go_sem, Nat.reduceAdd, Nat.reduceEqDiff, Nat.reduceLeDiff, Nat.reduceMul, Nat.reduceLT, reduceIte, Int.reduceToNat, w64_id, cast_succ])
    (first | refine SW.condD rfl (fun h2 => ?_) (fun h2 => ?_) | refine SW.condN rfl (fun h2 => ?_) (fun h2 => ?_) | refine SW.condNB rfl (fun h2 => ?_) (fun h2 => ?_) | refine SW.condB rfl (fun h2 => ?_) (fun h2 => ?_))
    · repeat (first | (with_reducible first | refine SW.seq ?_ | refine SW.block ?_ | refine SW.rowC ?_ | refine SW.skip ?_ | refine SW.exit ?_ | intro _ | refine And.intro (by omega) ?_) | simp (config := { maxSteps := 1000000 }) (disch := (first | omega | (simp only [go_sem]; try omega))) only [go_sem, Nat.reduceAdd, Nat.reduceEqDiff, Nat.reduceLeDiff, Nat.reduceMul, Nat.reduceLT, reduceIte, Int.reduceToNat, w64_id, cast_succ])
      refine SW.ret ?_; (try simp only [go_sem]); (first | refine FunPost.one ?_ | refine FunPost.two ?_ | refine FunPost.three ?_); (try simp (config := { maxSteps := 1000000 }) (disch := (first | omega | (simp only [go_sem]; try omega))) only [go_sem, Nat.reduceAdd, Nat.reduceEqDiff, Nat.reduceLeDiff, Nat.reduceMul, Nat.reduceLT, reduceIte, Int.reduceToNat, w64_id, cast_succ]); (first | (with_reducible refine GR.drop ?_ ?_; (simp only [go_sem, and_self, and_true, true_and, implies_true, List.take_succ_cons, List.take_zero])) | refine GR.of ?_); refine ⟨?_, rfl⟩; (try with_reducible rfl)
      rw [hc, List.drop_eq_getElem_cons (show pre.length < b.length by omega)]; rfl
    · repeat (first | (with_reducible first | refine SW.seq ?_ | refine SW.block ?_ | refine SW.rowC ?_ | refine SW.skip ?_ | refine SW.exit ?_ | intro _ | refine And.intro (by omega) ?_) | simp (config := { maxSteps := 1000000 }) (disch := (first | omega | (simp only [go_sem]; try omega))) only [go_sem, Nat.reduceAdd, Nat.reduceEqDiff, Nat.reduceLeDiff, Nat.reduceMul, Nat.reduceLT, reduceIte, Int.reduceToNat, w64_id, cast_succ])
      refine SW.ret ?_; (try simp only [go_sem]); (first | refine FunPost.one ?_ | refine FunPost.two ?_ | refine FunPost.three ?_); (try simp (config := { maxSteps := 1000000 }) (disch := (first | omega | (simp only [go_sem]; try omega))) only [go_sem, Nat.reduceAdd, Nat.reduceEqDiff, Nat.reduceLeDiff, Nat.reduceMul, Nat.reduceLT, reduceIte, Int.reduceToNat, w64_id, cast_succ]); (first | (with_reducible refine GR.drop ?_ ?_; (simp only [go_sem, and_self, and_true, true_and, implies_true, List.take_succ_cons, List.take_zero])) | refine GR.of ?_); refine ⟨?_, rfl⟩; (try with_reducible rfl)
      rw [hc, List.drop_eq_nil_of_le (by omega)]; rfl
theorem compareSystems_fn (a b : List (List Int)) : PFn Tryz.prog f_impl_compareSystems [ilSS a, ilSS b] (I (cmpSS a b)) := by
  intro H; refine ACalls.introB s_impl_compareSystems (by simp) ?_; intro hB hA; unfold c_impl_compareSystems; simp (config := { maxSteps := 1000000 }) (disch := (first | omega | (simp only [go_sem]; try omega))) only [go_sem, Nat.reduceAdd, Nat.reduceEqDiff, Nat.reduceLeDiff, Nat.reduceMul, Nat.reduceLT, reduceIte, Int.reduceToNat, w64_id, cast_succ]
  repeat (first | (with_reducible first | refine SW.seq ?_ | refine SW.block ?_ | refine SW.rowC ?_ | refine SW.skip ?_ | refine SW.exit ?_ | refine PFn.use (CompareFunc_fn a b) ?_ | refine PFn.useq (CompareFunc_fn a b) ?_ | intro _ | refine And.intro (by omega) ?_) | simp (config := { maxSteps := 1000000 }) (disch := (first | omega | (simp only [go_sem]; try omega))) only [go_sem, Nat.reduceAdd, Nat.reduceEqDiff, Nat.reduceLeDiff, Nat.reduceMul, Nat.reduceLT, reduceIte, Int.reduceToNat, w64_id, cast_succ])
  refine SW.ret ?_; (try simp only [go_sem]); (first | refine FunPost.one ?_ | refine FunPost.two ?_ | refine FunPost.three ?_); (try simp (config := { maxSteps := 1000000 }) (disch := (first | omega | (simp only [go_sem]; try omega))) only [go_sem, Nat.reduceAdd, Nat.reduceEqDiff, Nat.reduceLeDiff, Nat.reduceMul, Nat.reduceLT, reduceIte, Int.reduceToNat, w64_id, cast_succ]); (first | (with_reducible refine GR.drop ?_ ?_; (simp only [go_sem, and_self, and_true, true_and, implies_true, List.take_succ_cons, List.take_zero])) | refine GR.of ?_); refine ⟨?_, rfl⟩; (try with_reducible rfl)
theorem l27Compare_fn (a b : List (List Int)) (hl : a.length = b.length) : PFn Tryz.prog f_spec_l27Compare [ilSS a, ilSS b] (I (cmpSS a b)) := by
  intro H; refine ACalls.introB s_spec_l27Compare (by simp) ?_; intro hB hA; unfold c_spec_l27Compare; simp (config := { maxSteps := 1000000 }) (disch := (first | omega | (simp only [go_sem]; try omega))) only [go_sem, Nat.reduceAdd, Nat.reduceEqDiff, Nat.reduceLeDiff, Nat.reduceMul, Nat.reduceLT, reduceIte, Int.reduceToNat, w64_id, cast_succ]
  repeat (first | (with_reducible first | refine SW.seq ?_ | refine SW.block ?_ | refine SW.rowC ?_ | refine SW.skip ?_ | refine SW.exit ?_ | intro _ | refine And.intro (by omega) ?_) | simp (config := { maxSteps := 1000000 }) (disch := (first | omega | (simp only [go_sem]; try omega))) only [go_sem, Nat.reduceAdd, Nat.reduceEqDiff, Nat.reduceLeDiff, Nat.reduceMul, Nat.reduceLT, reduceIte, Int.reduceToNat, w64_id, cast_succ])
  refine SW.loopE (fun E0 H0 q E' H' => ∃ (pre post : List (List Int)), a = pre ++ post ∧ q = post.length ∧ E' = aput E0 5 (I pre.length) ∧ H' = H0 ∧ cmpSS a b = cmpSS post (b.drop pre.length)) a.length ⟨[], a, rfl, rfl, rfl, rfl, by simp⟩ ?_
  rintro q E' H' ⟨pre, post, hpp, rfl, rfl, rfl, hc⟩
  simp (config := { maxSteps := 1000000 }) (disch := (first | omega | (simp only [go_sem]; try omega))) only [go_sem, Nat.reduceAdd, Nat.reduceEqDiff, Nat.reduceLeDiff, Nat.reduceMul, Nat.reduceLT, reduceIte, Int.reduceToNat, w64_id, cast_succ]
  repeat (first | (with_reducible first | refine SW.seq ?_ | refine SW.block ?_ | refine SW.rowC ?_ | refine SW.skip ?_ | refine SW.exit ?_ | intro _ | refine And.intro (by omega) ?_) | simp (config := { maxSteps := 1000000 }) (disch := (first | omega | (simp only [go_sem]; try omega))) only [go_sem, Nat.reduceAdd, Nat.reduceEqDiff, Nat.reduceLeDiff, Nat.reduceMul, Nat.reduceLT, reduceIte, Int.reduceToNat, w64_id, cast_succ])
  by_cases h1 : pre.length < a.length
  · obtain ⟨x, post, rfl, hg, -⟩ := consOf (d := []) hpp h1
    rw [cmpSS_step _ _ _ _ (by omega)] at hc
    have d1 : decide ((pre.length : Int) < (a.length : Int)) = true := decide_eq_true (by omega)
    have d2 : decide ((pre.length : Int) < (b.length : Int)) = true := decide_eq_true (by omega)
    repeat (first | (with_reducible first | refine SW.seq ?_ | refine SW.block ?_ | refine SW.rowC ?_ | refine SW.skip ?_ | refine SW.exit ?_ | intro _ | refine And.intro (by omega) ?_) | simp (config := { maxSteps := 1000000 }) (disch := (first | omega | (simp only [go_sem]; try omega))) only [go_sem, Nat.reduceAdd, Nat.reduceEqDiff, Nat.reduceLeDiff, Nat.reduceMul, Nat.reduceLT, reduceIte, Int.reduceToNat, w64_id, cast_succ, d1, d2])
    refine SW.condT rfl ?_
    repeat (first | (with_reducible first | refine SW.seq ?_ | refine SW.block ?_ | refine SW.rowC ?_ | refine SW.skip ?_ | refine SW.exit ?_ | refine PFn.use (CompareLists_fn _ _) ?_ | refine PFn.useq (CompareLists_fn _ _) ?_ | intro _ | refine And.intro (by omega) ?_) | simp (config := { maxSteps := 1000000 }) (disch := (first | omega | (simp only [go_sem]; try omega))) only [go_sem, Nat.reduceAdd, Nat.reduceEqDiff, Nat.reduceLeDiff, Nat.reduceMul, Nat.reduceLT, reduceIte, Int.reduceToNat, w64_id, cast_succ, hg])
    by_cases h0 : cmpL x (b.getD pre.length []) = 0
    · rw [if_pos h0] at hc
      have hd : decide (cmpL x (b.getD pre.length []) = 0) = true := decide_eq_true h0
      repeat (first | (with_reducible first | refine SW.seq ?_ | refine SW.block ?_ | refine SW.rowC ?_ | refine SW.skip ?_ | refine SW.exit ?_ | intro _ | refine And.intro (by omega) ?_) | simp (config := { maxSteps := 1000000 }) (disch := (first | omega | (simp only [go_sem]; try omega))) only [go_sem, Nat.reduceAdd, Nat.reduceEqDiff, Nat.reduceLeDiff, Nat.reduceMul, Nat.reduceLT, reduceIte, Int.reduceToNat, w64_id, cast_succ, hd])
      refine SW.condF rfl ?_
      repeat (first | (with_reducible first | refine SW.seq ?_ | refine SW.block ?_ | refine SW.rowC ?_ | refine SW.skip ?_ | refine SW.exit ?_ | intro _ | refine And.intro (by omega) ?_) | simp (config := { maxSteps := 1000000 }) (disch := (first | omega | (simp only [go_sem]; try omega))) only [go_sem, Nat.reduceAdd, Nat.reduceEqDiff, Nat.reduceLeDiff, Nat.reduceMul, Nat.reduceLT, reduceIte, Int.reduceToNat, w64_id, cast_succ])
      refine SLoop.next post.length (by simp) ⟨pre ++ [x], post, by simp [hpp], rfl, by simp [go_sem], rfl, by rw [hc]; simp⟩
    · rw [if_neg h0] at hc
      have hd : decide (cmpL x (b.getD pre.length []) = 0) = false := decide_eq_false h0
      repeat (first | (with_reducible first | refine SW.seq ?_ | refine SW.block ?_ | refine SW.rowC ?_ | refine SW.skip ?_ | refine SW.exit ?_ | intro _ | refine And.intro (by omega) ?_) | simp (config := { maxSteps := 1000000 }) (disch := (first | omega | (simp only [go_sem]; try omega))) only [go_sem, Nat.reduceAdd, Nat.reduceEqDiff, Nat.reduceLeDiff, Nat.reduceMul, Nat.reduceLT, reduceIte, Int.reduceToNat, w64_id, cast_succ, hd])
      refine SW.condT rfl ?_
      repeat (first | (with_reducible first | refine SW.seq ?_ | refine SW.block ?_ | refine SW.rowC ?_ | refine SW.skip ?_ | refine SW.exit ?_ | intro _ | refine And.intro (by omega) ?_) | simp (config := { maxSteps := 1000000 }) (disch := (first | omega | (simp only [go_sem]; try omega))) only [go_sem, Nat.reduceAdd, Nat.reduceEqDiff, Nat.reduceLeDiff, Nat.reduceMul, Nat.reduceLT, reduceIte, Int.reduceToNat, w64_id, cast_succ])
      refine SW.ret ?_; (try simp only [go_sem]); (first | refine FunPost.one ?_ | refine FunPost.two ?_ | refine FunPost.three ?_); (try simp (config := { maxSteps := 1000000 }) (disch := (first | omega | (simp only [go_sem]; try omega))) only [go_sem, Nat.reduceAdd, Nat.reduceEqDiff, Nat.reduceLeDiff, Nat.reduceMul, Nat.reduceLT, reduceIte, Int.reduceToNat, w64_id, cast_succ]); (first | (with_reducible refine GR.drop ?_ ?_; (simp only [go_sem, and_self, and_true, true_and, implies_true, List.take_succ_cons, List.take_zero])) | refine GR.of ?_); refine ⟨?_, rfl⟩; (try with_reducible rfl)
      rw [hc]
  · obtain ⟨rfl, rfl⟩ := nilOf hpp h1
    have d1 : decide ((pre.length : Int) < (pre.length : Int)) = false := decide_eq_false (by omega)
    repeat (first | (with_reducible first | refine SW.seq ?_ | refine SW.block ?_ | refine SW.rowC ?_ | refine SW.skip ?_ | refine SW.exit ?_ | intro _ | refine And.intro (by omega) ?_) | simp (config := { maxSteps := 1000000 }) (disch := (first | omega | (simp only [go_sem]; try omega))) only [go_sem, Nat.reduceAdd, Nat.reduceEqDiff, Nat.reduceLeDiff, Nat.reduceMul, Nat.reduceLT, reduceIte, Int.reduceToNat, w64_id, cast_succ, d1])
    refine SW.condF rfl ?_
    repeat (first | (with_reducible first | refine SW.seq ?_ | refine SW.block ?_ | refine SW.rowC ?_ | refine SW.skip ?_ | refine SW.exit ?_ | intro _ | refine And.intro (by omega) ?_) | simp (config := { maxSteps := 1000000 }) (disch := (first | omega | (simp only [go_sem]; try omega))) only [go_sem, Nat.reduceAdd, Nat.reduceEqDiff, Nat.reduceLeDiff, Nat.reduceMul, Nat.reduceLT, reduceIte, Int.reduceToNat, w64_id, cast_succ])
    refine SW.ret ?_; (try simp only [go_sem]); (first | refine FunPost.one ?_ | refine FunPost.two ?_ | refine FunPost.three ?_); (try simp (config := { maxSteps := 1000000 }) (disch := (first | omega | (simp only [go_sem]; try omega))) only [go_sem, Nat.reduceAdd, Nat.reduceEqDiff, Nat.reduceLeDiff, Nat.reduceMul, Nat.reduceLT, reduceIte, Int.reduceToNat, w64_id, cast_succ]); (first | (with_reducible refine GR.drop ?_ ?_; (simp only [go_sem, and_self, and_true, true_and, implies_true, List.take_succ_cons, List.take_zero])) | refine GR.of ?_); refine ⟨?_, rfl⟩; (try with_reducible rfl)
    rw [hc, List.drop_eq_nil_of_le (by omega)]; rfl
def perms (n : Nat) : List (List Int) := (List.range (fct n)).map (perm n)
theorem allPermutations_fn (n : Nat) (hn : n ≤ 6) : PFn Tryz.prog f_impl_allPermutations [I n] (ilSS (perms n)) := by
  intro H; refine ACalls.introB s_impl_allPermutations (by simp) ?_; intro hB hA; unfold c_impl_allPermutations; simp (config := { maxSteps := 1000000 }) (disch := (first | omega | (simp only [go_sem]; try omega))) only [go_sem, Nat.reduceAdd, Nat.reduceEqDiff, Nat.reduceLeDiff, Nat.reduceMul, Nat.reduceLT, reduceIte, Int.reduceToNat, w64_id, cast_succ]
  have hf := fct_le hn
  repeat (first | (with_reducible first | refine SW.seq ?_ | refine SW.block ?_ | refine SW.rowC ?_ | refine SW.skip ?_ | refine SW.exit ?_ | refine PFn.use (implFact_fn n hn) ?_ | refine PFn.useq (implFact_fn n hn) ?_ | intro _ | refine And.intro (by omega) ?_) | simp (config := { maxSteps := 1000000 }) (disch := (first | omega | (simp only [go_sem]; try omega))) only [go_sem, Nat.reduceAdd, Nat.reduceEqDiff, Nat.reduceLeDiff, Nat.reduceMul, Nat.reduceLT, reduceIte, Int.reduceToNat, w64_id, cast_succ])
  refine SW.ghost (Gh.name 3 50 1 rfl) ?_
  simp (config := { maxSteps := 1000000 }) (disch := (first | omega | (simp only [go_sem]; try omega))) only [go_sem, Nat.reduceAdd, Nat.reduceEqDiff, Nat.reduceLeDiff, Nat.reduceMul, Nat.reduceLT, reduceIte, Int.reduceToNat, w64_id, cast_succ]
  unfold perms
  generalize hN : fct n = N at *
  refine SW.loopE (fun E0 H0 q E' H' => ∃ (m ver : Nat), m ≤ N ∧ q = N - m ∧ E' = aput (aput E0 9 (I m)) 3 (.nm H.length ver 0 ((List.range m).map (perm n)).length) ∧ H' = H ++ [⟨ver, tyLL, 1, ((List.range m).map (perm n)).map ilS⟩]) N ⟨0, 0, by omega, by omega, rfl, rfl⟩ ?_
  rintro q E' H' ⟨m, ver, hm, rfl, rfl, rfl⟩
  have hms : (List.range (m + 1)).map (perm n) = (List.range m).map (perm n) ++ [perm n m] := by simp [List.range_succ]
  have hml : ((List.range m).map (perm n)).length = m := by simp
  generalize hM : (List.range m).map (perm n) = M at *
  have htl : (M.map ilS).take m = M.map ilS := List.take_of_length_le (by simp [hml])
  simp (config := { maxSteps := 1000000 }) (disch := (first | omega | (simp only [go_sem]; try omega))) only [go_sem, Nat.reduceAdd, Nat.reduceEqDiff, Nat.reduceLeDiff, Nat.reduceMul, Nat.reduceLT, reduceIte, Int.reduceToNat, w64_id, cast_succ]
  repeat (first | (with_reducible first | refine SW.seq ?_ | refine SW.block ?_ | refine SW.rowC ?_ | refine SW.skip ?_ | refine SW.exit ?_ | intro _ | refine And.intro (by omega) ?_) | simp (config := { maxSteps := 1000000 }) (disch := (first | omega | (simp only [go_sem]; try omega))) only [go_sem, Nat.reduceAdd, Nat.reduceEqDiff, Nat.reduceLeDiff, Nat.reduceMul, Nat.reduceLT, reduceIte, Int.reduceToNat, w64_id, cast_succ])
  (first | refine SW.condD rfl (fun h => ?_) (fun h => ?_) | refine SW.condN rfl (fun h => ?_) (fun h => ?_) | refine SW.condNB rfl (fun h => ?_) (fun h => ?_) | refine SW.condB rfl (fun h => ?_) (fun h => ?_))
  · repeat (first | (with_reducible first | refine SW.seq ?_ | refine SW.block ?_ | refine SW.rowC ?_ | refine SW.skip ?_ | refine SW.exit ?_ | refine PFn.use (UnrankB_fn n m hn (by omega)) ?_ | refine PFn.useq (UnrankB_fn n m hn (by omega)) ?_ | intro _ | refine And.intro (by omega) ?_) | simp (config := { maxSteps := 1000000 }) (disch := (first | omega | (simp only [go_sem]; try omega))) only [go_sem, Nat.reduceAdd, Nat.reduceEqDiff, Nat.reduceLeDiff, Nat.reduceMul, Nat.reduceLT, reduceIte, Int.reduceToNat, w64_id, cast_succ, htl, hml])
    refine SLoop.nextT 1 (N - (m + 1)) hB (by omega) (by omega) (by simp) ?_ ?_ ⟨m + 1, ver + 1, by omega, rfl, ?_, ?_⟩
    · (simp only [go_sem, Nat.reduceAdd, Nat.reduceEqDiff, reduceIte, go_sem, and_self, and_true, true_and, implies_true, List.take_succ_cons, List.take_zero, and_true, true_and]; try omega)
    · (simp only [go_sem, Nat.reduceAdd, Nat.reduceEqDiff, reduceIte, go_sem, and_self, and_true, true_and, implies_true, List.take_succ_cons, List.take_zero, and_true, true_and]; try omega)
    · simp [go_sem]
    · rw [hms]; simp
  · have : m = N := by omega
    subst this
    rw [hM]
    repeat (first | (with_reducible first | refine SW.seq ?_ | refine SW.block ?_ | refine SW.rowC ?_ | refine SW.skip ?_ | refine SW.exit ?_ | intro _ | refine And.intro (by omega) ?_) | simp (config := { maxSteps := 1000000 }) (disch := (first | omega | (simp only [go_sem]; try omega))) only [go_sem, Nat.reduceAdd, Nat.reduceEqDiff, Nat.reduceLeDiff, Nat.reduceMul, Nat.reduceLT, reduceIte, Int.reduceToNat, w64_id, cast_succ])
    refine SW.ret ?_; (try simp only [go_sem]); (first | refine FunPost.one ?_ | refine FunPost.two ?_ | refine FunPost.three ?_); (try simp (config := { maxSteps := 1000000 }) (disch := (first | omega | (simp only [go_sem]; try omega))) only [go_sem, Nat.reduceAdd, Nat.reduceEqDiff, Nat.reduceLeDiff, Nat.reduceMul, Nat.reduceLT, reduceIte, Int.reduceToNat, w64_id, cast_succ])
    exact GR.froz (froz_rowS (r := H.length) (ver := ver) (ty := tyLL) (Nat.le_refl _) (by simp)) ⟨rfl, rfl⟩
end Go.Proofs.YthogadbnddmkdaaGreat
namespace Go.Proofs.YthogadbnddmkdaaGreat
open Go.Shelf Go.RowKit Go.Lib Go.Sort Go.Av
theorem cmpSS_eq0 : ∀ a b : List (List Int), cmpSS a b = 0 ↔ a = b
  | [], [] => by simp [cmpSS]
  | [], _ :: _ => by simp [cmpSS]
  | _ :: _, [] => by simp [cmpSS]
  | x :: a, y :: b => by
    unfold cmpSS
    split
    · rename_i h
      rw [cmpSS_eq0 a b, (cmpL_eq0 x y).1 h]; simp
    · rename_i h
      refine ⟨fun h2 => absurd h2 h, fun h2 => ?_⟩
      simp only [List.cons.injEq] at h2
      exact absurd ((cmpL_eq0 x y).2 h2.1) h
theorem cmpSS_neg : ∀ a b : List (List Int), cmpSS b a = - cmpSS a b
  | [], [] => by simp [cmpSS]
  | [], _ :: _ => by simp [cmpSS]
  | _ :: _, [] => by simp [cmpSS]
  | x :: a, y :: b => by
    have hn := cmpL_tot.neg x y
    unfold cmpSS
    by_cases h : cmpL x y = 0
    · rw [if_pos h, if_pos (by omega)]
      exact cmpSS_neg a b
    · rw [if_neg h, if_neg (by omega)]
      omega
theorem cmpSS_trans : ∀ a b c : List (List Int), cmpSS a b < 0 → cmpSS b c < 0 → cmpSS a c < 0
  | [], [], _ => by simp [cmpSS]
  | [], _ :: _, [] => by simp [cmpSS]
  | [], _ :: _, _ :: _ => by simp [cmpSS]
  | _ :: _, [], _ => by simp [cmpSS]
  | _ :: _, _ :: _, [] => by simp [cmpSS]
  | x :: a, y :: b, z :: c => by
    unfold cmpSS
    intro h1 h2
    by_cases e1 : cmpL x y = 0
    · have := (cmpL_eq0 x y).1 e1; subst this
      rw [if_pos e1] at h1
      by_cases e2 : cmpL x z = 0
      · rw [if_pos e2] at h2 ⊢
        exact cmpSS_trans a b c h1 h2
      · rw [if_neg e2] at h2 ⊢
        exact h2
    · rw [if_neg e1] at h1
      by_cases e2 : cmpL y z = 0
      · have := (cmpL_eq0 y z).1 e2; subst this
        rw [if_neg e1]; exact h1
      · rw [if_neg e2] at h2
        have h3 := cmpL_trans _ _ _ h1 h2
        rw [if_neg (by omega)]; exact h3
theorem cmpSS_tot : TotC cmpSS := ⟨cmpSS_neg, cmpSS_eq0, cmpSS_trans⟩
end Go.Proofs.YthogadbnddmkdaaGreat
namespace Go.Proofs.YthogadbnddmkdaaGreat
open Go.Av
abbrev f_impl_LeastSystem : Nat := 12
def c_impl_LeastSystem : SC :=
 .seq (.reg [
     ⟨(some 4), .mv (.const (.slice none 0 0)), none⟩,
     ⟨(some 5), .mv (.const (.int .i64 0)), none⟩] [0, 1])
 (.seq (.seq (.reg [
     ⟨(some 6), .mv (.tmp 0), none⟩,
     ⟨(some 7), .mv (.tmp 1), none⟩,
     ⟨(some 8), .call 42 [(.tmp 6), (.tmp 7)], none⟩,
     ⟨(some 9), .un .not (.tmp 8), none⟩] [0, 1, 9])
 (.cond (.tmp 9)
  (.seq (.reg [
      ⟨(some 4), .mv (.const (.slice none 0 0)), none⟩,
      ⟨(some 5), .mv (.const (.int .i64 1)), none⟩] [4, 5])
  (.ret))
  (.skip)))
 (.seq (.reg [
     ⟨(some 10), .mv (.tmp 0), none⟩,
     ⟨(some 11), .mv (.tmp 1), none⟩,
     ⟨(some 12), .call 43 [(.tmp 10), (.tmp 11)], none⟩,
     ⟨(some 4), .mv (.tmp 12), none⟩,
     ⟨(some 5), .mv (.const (.int .i64 0)), none⟩] [4, 5])
 (.ret)))
theorem s_impl_LeastSystem : stripF Tryz.prog 12 [[0, 1], [0, 1, 9], [4, 5], [4, 5]] = some (c_impl_LeastSystem, [.tmp 4, .tmp 5], 13) := by kernel_rfl
abbrev f_impl_SystemAutomorphisms : Nat := 13
def c_impl_SystemAutomorphisms : SC :=
 .seq (.reg [
     ⟨(some 4), .mv (.const (.int .i64 0)), none⟩,
     ⟨(some 5), .mv (.const (.int .i64 0)), none⟩] [0, 1])
 (.seq (.seq (.reg [
     ⟨(some 9), .mv (.tmp 0), none⟩,
     ⟨(some 10), .mv (.tmp 1), none⟩,
     ⟨(some 11), .call 42 [(.tmp 9), (.tmp 10)], none⟩,
     ⟨(some 12), .un .not (.tmp 11), none⟩] [0, 1, 12])
 (.cond (.tmp 12)
  (.seq (.reg [
      ⟨(some 4), .mv (.const (.int .i64 0)), none⟩,
      ⟨(some 5), .mv (.const (.int .i64 1)), none⟩] [4, 5])
  (.ret))
  (.skip)))
 (.seq (.reg [
     ⟨(some 6), .mv (.const (.int .i64 0)), none⟩] [0, 1, 6])
 (.seq (.seq (.reg [
     ⟨(some 13), .mv (.tmp 0), none⟩,
     ⟨(some 14), .call 44 [(.tmp 13)], none⟩,
     ⟨(some 15), .len (.tmp 14), none⟩,
     ⟨(some 16), .mv (.const (.int .i64 0)), none⟩] [1, 6, 14, 15, 16])
 (.block 0 (.loop [1, 6, 14, 15, 16]
   (.seq (.reg [
       ⟨(some 17), .bin .lss (.tmp 16) (.tmp 15), none⟩] [1, 6, 14, 15, 16, 17])
   (.seq (.cond (.tmp 17)
    (.skip)
    (.exit 0))
   (.seq (.block 1 (.seq (.reg [
        ⟨(some 18), .iaddr 1 (.tmp 14) (.tmp 16), none⟩,
        ⟨(some 19), .load 1 false (.tmp 18), none⟩,
        ⟨(some 8), .mv (.tmp 19), none⟩] [1, 6, 8, 14, 15, 16])
    (.seq (.reg [
        ⟨(some 20), .mv (.tmp 8), none⟩,
        ⟨(some 21), .mv (.tmp 1), none⟩,
        ⟨(some 22), .call 46 [(.tmp 20), (.tmp 21)], none⟩,
        ⟨(some 23), .mv (.tmp 1), none⟩,
        ⟨(some 24), .call 45 [(.tmp 22), (.tmp 23)], none⟩,
        ⟨(some 25), .bin .eql (.tmp 24) (.const (.int .i64 0)), none⟩] [1, 6, 14, 15, 16, 25])
    (.cond (.tmp 25)
     (.reg [
         ⟨(some 26), .mv (.tmp 6), none⟩,
         ⟨(some 27), .bin .add (.tmp 26) (.const (.int .i64 1)), none⟩,
         ⟨(some 6), .mv (.tmp 27), none⟩] [1, 6, 14, 15, 16])
     (.skip)))))
   (.reg [
       ⟨(some 28), .bin .add (.tmp 16) (.const (.int .i64 1)), none⟩,
       ⟨(some 16), .mv (.tmp 28), none⟩] [1, 6, 14, 15, 16])))))))
 (.seq (.reg [
     ⟨(some 29), .mv (.tmp 6), none⟩,
     ⟨(some 4), .mv (.tmp 29), none⟩,
     ⟨(some 5), .mv (.const (.int .i64 0)), none⟩] [4, 5])
 (.ret)))))
theorem s_impl_SystemAutomorphisms : stripF Tryz.prog 13 [[0, 1], [0, 1, 12], [4, 5], [0, 1, 6], [1, 6, 14, 15, 16], [1, 6, 14, 15, 16], [1, 6, 14, 15, 16, 17], [1, 6, 8, 14, 15, 16], [1, 6, 14, 15, 16, 25], [1, 6, 14, 15, 16], [1, 6, 14, 15, 16], [4, 5]] = some (c_impl_SystemAutomorphisms, [.tmp 4, .tmp 5], 30) := by kernel_rfl
abbrev f_impl_leastSystem : Nat := 43
def c_impl_leastSystem : SC :=
 .seq (.reg [
     ⟨(some 4), .mv (.const (.slice none 0 0)), none⟩] [0, 1])
 (.seq (.reg [
     ⟨(some 9), .mv (.tmp 1), none⟩,
     ⟨(some 5), .mv (.tmp 9), none⟩] [0, 1, 5])
 (.seq (.seq (.reg [
     ⟨(some 10), .mv (.tmp 0), none⟩,
     ⟨(some 11), .call 44 [(.tmp 10)], none⟩,
     ⟨(some 12), .len (.tmp 11), none⟩,
     ⟨(some 13), .mv (.const (.int .i64 0)), none⟩] [1, 5, 11, 12, 13])
 (.block 0 (.loop [1, 5, 11, 12, 13]
   (.seq (.reg [
       ⟨(some 14), .bin .lss (.tmp 13) (.tmp 12), none⟩] [1, 5, 11, 12, 13, 14])
   (.seq (.cond (.tmp 14)
    (.skip)
    (.exit 0))
   (.seq (.block 1 (.seq (.reg [
        ⟨(some 15), .iaddr 1 (.tmp 11) (.tmp 13), none⟩,
        ⟨(some 16), .load 1 false (.tmp 15), none⟩,
        ⟨(some 7), .mv (.tmp 16), none⟩] [1, 5, 7, 11, 12, 13])
    (.seq (.reg [
        ⟨(some 17), .mv (.tmp 7), none⟩,
        ⟨(some 18), .mv (.tmp 1), none⟩,
        ⟨(some 19), .call 46 [(.tmp 17), (.tmp 18)], none⟩,
        ⟨(some 8), .mv (.tmp 19), none⟩] [1, 5, 8, 11, 12, 13])
    (.seq (.reg [
        ⟨(some 20), .mv (.tmp 8), none⟩,
        ⟨(some 21), .mv (.tmp 5), none⟩,
        ⟨(some 22), .call 45 [(.tmp 20), (.tmp 21)], none⟩,
        ⟨(some 23), .bin .lss (.tmp 22) (.const (.int .i64 0)), none⟩] [1, 5, 8, 11, 12, 13, 23])
    (.cond (.tmp 23)
     (.reg [
         ⟨(some 24), .mv (.tmp 8), none⟩,
         ⟨(some 5), .mv (.tmp 24), none⟩] [1, 5, 11, 12, 13])
     (.skip))))))
   (.reg [
       ⟨(some 25), .bin .add (.tmp 13) (.const (.int .i64 1)), none⟩,
       ⟨(some 13), .mv (.tmp 25), none⟩] [1, 5, 11, 12, 13])))))))
 (.seq (.reg [
     ⟨(some 26), .mv (.tmp 5), none⟩,
     ⟨(some 27), .call 78 [(.tmp 26)], none⟩,
     ⟨(some 4), .mv (.tmp 27), none⟩] [4])
 (.ret))))
theorem s_impl_leastSystem : stripF Tryz.prog 43 [[0, 1], [0, 1, 5], [1, 5, 11, 12, 13], [1, 5, 11, 12, 13], [1, 5, 11, 12, 13, 14], [1, 5, 7, 11, 12, 13], [1, 5, 8, 11, 12, 13], [1, 5, 8, 11, 12, 13, 23], [1, 5, 11, 12, 13], [1, 5, 11, 12, 13], [4]] = some (c_impl_leastSystem, [.tmp 4], 28) := by kernel_rfl
abbrev f_spec_l27Least : Nat := 49
def c_spec_l27Least : SC :=
 .seq (.reg [
     ⟨(some 4), .mv (.const (.slice none 0 0)), none⟩,
     ⟨(some 5), .mv (.const (.int .i64 0)), none⟩] [0, 1])
 (.seq (.reg [
     ⟨(some 10), .mv (.tmp 1), none⟩,
     ⟨(some 11), .call 97 [(.tmp 10)], none⟩,
     ⟨(some 6), .mv (.tmp 11), none⟩] [0, 1, 6])
 (.seq (.reg [
     ⟨(some 7), .mv (.const (.int .i64 0)), none⟩] [0, 1, 6, 7])
 (.seq (.seq (.reg [
     ⟨(some 8), .mv (.const (.int .i64 0)), none⟩] [0, 1, 6, 7, 8])
 (.block 0 (.loop [0, 1, 6, 7, 8]
   (.seq (.seq (.reg [
       ⟨(some 12), .mv (.tmp 8), none⟩,
       ⟨(some 13), .mv (.tmp 0), none⟩,
       ⟨(some 14), .call 98 [(.tmp 13)], none⟩,
       ⟨(some 15), .bin .lss (.tmp 12) (.tmp 14), none⟩] [0, 1, 6, 7, 8, 15])
   (.cond (.tmp 15)
    (.skip)
    (.exit 0)))
   (.seq (.block 1 (.seq (.reg [
        ⟨(some 18), .mv (.tmp 0), none⟩,
        ⟨(some 19), .mv (.tmp 8), none⟩,
        ⟨(some 20), .call 100 [(.tmp 18), (.tmp 19)], none⟩,
        ⟨(some 21), .mv (.tmp 1), none⟩,
        ⟨(some 22), .call 99 [(.tmp 20), (.tmp 21)], none⟩,
        ⟨(some 9), .mv (.tmp 22), none⟩] [0, 1, 6, 7, 8, 9])
    (.seq (.seq (.reg [
        ⟨(some 23), .mv (.tmp 9), none⟩,
        ⟨(some 24), .mv (.tmp 6), none⟩,
        ⟨(some 25), .call 101 [(.tmp 23), (.tmp 24)], none⟩,
        ⟨(some 26), .bin .lss (.tmp 25) (.const (.int .i64 0)), none⟩] [0, 1, 6, 7, 8, 9, 26])
    (.cond (.tmp 26)
     (.reg [
         ⟨(some 27), .mv (.tmp 9), none⟩,
         ⟨(some 6), .mv (.tmp 27), none⟩] [0, 1, 6, 7, 8, 9])
     (.skip)))
    (.seq (.reg [
        ⟨(some 28), .mv (.tmp 9), none⟩,
        ⟨(some 29), .mv (.tmp 1), none⟩,
        ⟨(some 30), .call 101 [(.tmp 28), (.tmp 29)], none⟩,
        ⟨(some 31), .bin .eql (.tmp 30) (.const (.int .i64 0)), none⟩] [0, 1, 6, 7, 8, 31])
    (.cond (.tmp 31)
     (.reg [
         ⟨(some 32), .mv (.tmp 7), none⟩,
         ⟨(some 33), .bin .add (.tmp 32) (.const (.int .i64 1)), none⟩,
         ⟨(some 7), .mv (.tmp 33), none⟩] [0, 1, 6, 7, 8])
     (.skip))))))
   (.reg [
       ⟨(some 16), .mv (.tmp 8), none⟩,
       ⟨(some 17), .bin .add (.tmp 16) (.const (.int .i64 1)), none⟩,
       ⟨(some 8), .mv (.tmp 17), none⟩] [0, 1, 6, 7, 8]))))))
 (.seq (.reg [
     ⟨(some 34), .mv (.tmp 6), none⟩,
     ⟨(some 35), .mv (.tmp 7), none⟩,
     ⟨(some 4), .mv (.tmp 34), none⟩,
     ⟨(some 5), .mv (.tmp 35), none⟩] [4, 5])
 (.ret)))))
theorem s_spec_l27Least : stripF Tryz.prog 49 [[0, 1], [0, 1, 6], [0, 1, 6, 7], [0, 1, 6, 7, 8], [0, 1, 6, 7, 8], [0, 1, 6, 7, 8, 15], [0, 1, 6, 7, 8, 9], [0, 1, 6, 7, 8, 9, 26], [0, 1, 6, 7, 8, 9], [0, 1, 6, 7, 8, 31], [0, 1, 6, 7, 8], [0, 1, 6, 7, 8], [4, 5]] = some (c_spec_l27Least, [.tmp 4, .tmp 5], 36) := by kernel_rfl
theorem perms_ok {n : Nat} {p : List Int} (h : p ∈ perms n) : permOk n p := by
  obtain ⟨r, hr, rfl⟩ := List.mem_map.1 h
  rw [List.mem_range] at hr
  exact perm_ok hr
def sysOk (n : Nat) (bs : List (List Int)) : Prop := 1 ≤ n ∧ n ≤ 6 ∧ Asc cmpL bs ∧ ∀ b ∈ bs, asc 0 ((n : Int) - 1) b = true
theorem sysOk_of {v : Int} {bs : List (List Int)} (h : systemOk v bs = true) : ∃ n : Nat, v = n ∧ sysOk n bs := by
  simp only [systemOk, Bool.and_eq_true, decide_eq_true_eq] at h
  obtain ⟨n, rfl⟩ := Int.eq_ofNat_of_zero_le (show 0 ≤ v by omega)
  have hc := chain_facts _ bs none h.2
  exact ⟨n, rfl, by omega, by omega, hc.1, fun b hb => (hc.2.1 b hb).1⟩
theorem imgS_len {n : Nat} {p : List Int} {bs : List (List Int)} (hs : sysOk n bs) (hp : permOk n p) : (imgS p bs).length = bs.length := by
  have := (sortU_perm cmpL_tot (images_nodup hp hs.2.2.1 hs.2.2.2)).length_eq
  unfold imgS; rw [this, List.length_map]
theorem imgS_row {n : Nat} {p : List Int} {bs : List (List Int)} (hs : sysOk n bs) {r : List Int} (hr : r ∈ imgS p bs) : r.length ≤ 64 := by
  unfold imgS at hr
  rw [sortU_mem cmpL_tot] at hr
  obtain ⟨b, hb, rfl⟩ := List.mem_map.1 hr
  have h1 := sortU_len (cf := cmpZ) (b.map (pa p))
  rw [List.length_map] at h1
  have h2 := asc_len (hs.2.2.2 b hb)
  have h3 := hs.2.1
  unfold img
  rcases h2 with h2 | h2
  · rw [h2]; simp [sortU]
  · omega
def leastF (bs : List (List Int)) (l : List (List Int)) : List (List Int) := l.foldl (fun best p => if cmpSS (imgS p bs) best < 0 then imgS p bs else best) bs
def sameC (bs : List (List Int)) (l : List (List Int)) : Nat := (l.filter fun p => decide (cmpSS (imgS p bs) bs = 0)).length
theorem leastF_snoc (bs l : List (List Int)) (p : List Int) : leastF bs (l ++ [p]) = if cmpSS (imgS p bs) (leastF bs l) < 0 then imgS p bs else leastF bs l := by unfold leastF; rw [List.foldl_append]; rfl
theorem sameC_snoc (bs l : List (List Int)) (p : List Int) : sameC bs (l ++ [p]) = sameC bs l + (if cmpSS (imgS p bs) bs = 0 then 1 else 0) := by
  unfold sameC
  rw [List.filter_append, List.length_append]
  by_cases h : cmpSS (imgS p bs) bs = 0 <;> simp [h]
theorem sameC_len (bs l : List (List Int)) : sameC bs l ≤ l.length := List.length_filter_le _ _
theorem leastF_ok {n : Nat} {bs : List (List Int)} (hs : sysOk n bs) : ∀ l : List (List Int), (∀ p ∈ l, permOk n p) → (leastF bs l).length = bs.length ∧ ∀ r ∈ leastF bs l, r.length ≤ 64 := by
  intro l
  rw [← List.reverse_reverse l]
  induction l.reverse with
  | nil =>
    intro _
    refine ⟨rfl, fun r hr => ?_⟩
    have h2 := asc_len (hs.2.2.2 r hr)
    have h3 := hs.2.1
    rcases h2 with h2 | h2
    · rw [h2]; simp
    · omega
  | cons p r ih =>
    intro h
    rw [List.reverse_cons] at h ⊢
    have ih' := ih (fun q hq => h q (by simp at hq ⊢; exact .inl hq))
    rw [leastF_snoc]
    split
    · exact ⟨imgS_len hs (h p (by simp)), fun r hr => imgS_row hs hr⟩
    · exact ih'
theorem l27Least_fn (n : Nat) (bs : List (List Int)) (hs : sysOk n bs) (hl : bs.length ≤ 2000000) : PFn Tryz.prog f_spec_l27Least [I n, ilSS bs] (.tup [ilSS (leastF bs (perms n)), I (sameC bs (perms n))]) := by
  intro H; refine ACalls.introB s_spec_l27Least (by simp) ?_; intro hB hA; unfold c_spec_l27Least; simp (config := { maxSteps := 1000000 }) (disch := (first | omega | (simp only [go_sem]; try omega))) only [go_sem, Nat.reduceAdd, Nat.reduceEqDiff, Nat.reduceLeDiff, Nat.reduceMul, Nat.reduceLT, reduceIte, Int.reduceToNat, w64_id, cast_succ]
  have hn := hs.2.1
  have hf := fct_le hn
  have hrow : ∀ x ∈ bs, x.length ≤ 2000000 := fun x hx => by have := (leastF_ok hs [] (by simp)).2 x hx; omega
  have hperm := fun r (hr : r < fct n) => perm_ok (n := n) hr
  unfold perms
  repeat (first | (with_reducible first | refine SW.seq ?_ | refine SW.block ?_ | refine SW.rowC ?_ | refine SW.skip ?_ | refine SW.exit ?_ | refine PFn.use (l06OwnF_fn bs hl hrow) ?_ | refine PFn.useq (l06OwnF_fn bs hl hrow) ?_ | intro _ | refine And.intro (by omega) ?_) | simp (config := { maxSteps := 1000000 }) (disch := (first | omega | (simp only [go_sem]; try omega))) only [go_sem, Nat.reduceAdd, Nat.reduceEqDiff, Nat.reduceLeDiff, Nat.reduceMul, Nat.reduceLT, reduceIte, Int.reduceToNat, w64_id, cast_succ])
  generalize hN : fct n = N at *
  refine SW.loopE (fun E0 H0 q E' H' => ∃ m : Nat, m ≤ N ∧ q = N - m ∧ E' = aput (aput (aput E0 8 (I m)) 6 (ilSS (leastF bs ((List.range m).map (perm n))))) 7 (I (sameC bs ((List.range m).map (perm n)))) ∧ H' = H0) N ⟨0, by omega, by omega, rfl, rfl⟩ ?_
  rintro q E' H' ⟨m, hm, rfl, rfl, rfl⟩
  have hms : (List.range (m + 1)).map (perm n) = (List.range m).map (perm n) ++ [perm n m] := by simp [List.range_succ]
  have hml : ((List.range m).map (perm n)).length = m := by simp
  have hok := leastF_ok hs ((List.range m).map (perm n)) (fun p hp => by
    obtain ⟨r, hr, rfl⟩ := List.mem_map.1 hp
    rw [List.mem_range] at hr
    exact hperm r (by omega))
  have hsl := sameC_len bs ((List.range m).map (perm n))
  have hls := leastF_snoc bs ((List.range m).map (perm n)) (perm n m)
  have hss := sameC_snoc bs ((List.range m).map (perm n)) (perm n m)
  rw [← hms] at hls hss
  generalize hB0 : leastF bs ((List.range m).map (perm n)) = B at *
  generalize hC0 : sameC bs ((List.range m).map (perm n)) = C at *
  have hfa : PFn Tryz.prog f_spec_l04Factorial [I n] (I N) := by rw [← hN]; exact specFact_fn n hn
  simp (config := { maxSteps := 1000000 }) (disch := (first | omega | (simp only [go_sem]; try omega))) only [go_sem, Nat.reduceAdd, Nat.reduceEqDiff, Nat.reduceLeDiff, Nat.reduceMul, Nat.reduceLT, reduceIte, Int.reduceToNat, w64_id, cast_succ]
  repeat (first | (with_reducible first | refine SW.seq ?_ | refine SW.block ?_ | refine SW.rowC ?_ | refine SW.skip ?_ | refine SW.exit ?_ | refine PFn.use (hfa) ?_ | refine PFn.useq (hfa) ?_ | intro _ | refine And.intro (by omega) ?_) | simp (config := { maxSteps := 1000000 }) (disch := (first | omega | (simp only [go_sem]; try omega))) only [go_sem, Nat.reduceAdd, Nat.reduceEqDiff, Nat.reduceLeDiff, Nat.reduceMul, Nat.reduceLT, reduceIte, Int.reduceToNat, w64_id, cast_succ])
  (first | refine SW.condD rfl (fun h => ?_) (fun h => ?_) | refine SW.condN rfl (fun h => ?_) (fun h => ?_) | refine SW.condNB rfl (fun h => ?_) (fun h => ?_) | refine SW.condB rfl (fun h => ?_) (fun h => ?_))
  · have hp := hperm m (by omega)
    have hil := imgS_len hs hp
    have hur : PFn Tryz.prog f_spec_l04Unrank [I n, I m] (ilS (perm n m)) := l04Unrank_fn n m hn (by omega)
    generalize perm n m = p at *
    have hli := l27Image_fn n p bs (by omega) hp hs.2.2.2 hl
    have hlc := l27Compare_fn (imgS p bs) B (by omega)
    have hlc2 := l27Compare_fn (imgS p bs) bs (by omega)
    repeat (first | (with_reducible first | refine SW.seq ?_ | refine SW.block ?_ | refine SW.rowC ?_ | refine SW.skip ?_ | refine SW.exit ?_ | refine PFn.use (hur) ?_ | refine PFn.useq (hur) ?_ | refine PFn.use (hli) ?_ | refine PFn.useq (hli) ?_ | refine PFn.use (hlc) ?_ | refine PFn.useq (hlc) ?_ | intro _ | refine And.intro (by omega) ?_) | simp (config := { maxSteps := 1000000 }) (disch := (first | omega | (simp only [go_sem]; try omega))) only [go_sem, Nat.reduceAdd, Nat.reduceEqDiff, Nat.reduceLeDiff, Nat.reduceMul, Nat.reduceLT, reduceIte, Int.reduceToNat, w64_id, cast_succ])
    by_cases h0 : cmpSS (imgS p bs) B < 0
    · rw [if_pos h0] at hls
      have hd : decide (cmpSS (imgS p bs) B < 0) = true := decide_eq_true h0
      repeat (first | (with_reducible first | refine SW.seq ?_ | refine SW.block ?_ | refine SW.rowC ?_ | refine SW.skip ?_ | refine SW.exit ?_ | intro _ | refine And.intro (by omega) ?_) | simp (config := { maxSteps := 1000000 }) (disch := (first | omega | (simp only [go_sem]; try omega))) only [go_sem, Nat.reduceAdd, Nat.reduceEqDiff, Nat.reduceLeDiff, Nat.reduceMul, Nat.reduceLT, reduceIte, Int.reduceToNat, w64_id, cast_succ, hd])
      refine SW.condT rfl ?_
      repeat (first | (with_reducible first | refine SW.seq ?_ | refine SW.block ?_ | refine SW.rowC ?_ | refine SW.skip ?_ | refine SW.exit ?_ | refine PFn.use (hlc2) ?_ | refine PFn.useq (hlc2) ?_ | intro _ | refine And.intro (by omega) ?_) | simp (config := { maxSteps := 1000000 }) (disch := (first | omega | (simp only [go_sem]; try omega))) only [go_sem, Nat.reduceAdd, Nat.reduceEqDiff, Nat.reduceLeDiff, Nat.reduceMul, Nat.reduceLT, reduceIte, Int.reduceToNat, w64_id, cast_succ])
      by_cases h9 : cmpSS (imgS p bs) bs = 0
      · rw [if_pos h9] at hss
        have hd2 : decide (cmpSS (imgS p bs) bs = 0) = true := decide_eq_true h9
        repeat (first | (with_reducible first | refine SW.seq ?_ | refine SW.block ?_ | refine SW.rowC ?_ | refine SW.skip ?_ | refine SW.exit ?_ | intro _ | refine And.intro (by omega) ?_) | simp (config := { maxSteps := 1000000 }) (disch := (first | omega | (simp only [go_sem]; try omega))) only [go_sem, Nat.reduceAdd, Nat.reduceEqDiff, Nat.reduceLeDiff, Nat.reduceMul, Nat.reduceLT, reduceIte, Int.reduceToNat, w64_id, cast_succ, hd2])
        refine SW.condT rfl ?_
        repeat (first | (with_reducible first | refine SW.seq ?_ | refine SW.block ?_ | refine SW.rowC ?_ | refine SW.skip ?_ | refine SW.exit ?_ | intro _ | refine And.intro (by omega) ?_) | simp (config := { maxSteps := 1000000 }) (disch := (first | omega | (simp only [go_sem]; try omega))) only [go_sem, Nat.reduceAdd, Nat.reduceEqDiff, Nat.reduceLeDiff, Nat.reduceMul, Nat.reduceLT, reduceIte, Int.reduceToNat, w64_id, cast_succ])
        refine SLoop.next (N - (m + 1)) (by omega) ⟨m + 1, by omega, rfl, ?_, rfl⟩
        rw [hls, hss]; simp [go_sem]
      · rw [if_neg h9] at hss
        have hd2 : decide (cmpSS (imgS p bs) bs = 0) = false := decide_eq_false h9
        repeat (first | (with_reducible first | refine SW.seq ?_ | refine SW.block ?_ | refine SW.rowC ?_ | refine SW.skip ?_ | refine SW.exit ?_ | intro _ | refine And.intro (by omega) ?_) | simp (config := { maxSteps := 1000000 }) (disch := (first | omega | (simp only [go_sem]; try omega))) only [go_sem, Nat.reduceAdd, Nat.reduceEqDiff, Nat.reduceLeDiff, Nat.reduceMul, Nat.reduceLT, reduceIte, Int.reduceToNat, w64_id, cast_succ, hd2])
        refine SW.condF rfl ?_
        repeat (first | (with_reducible first | refine SW.seq ?_ | refine SW.block ?_ | refine SW.rowC ?_ | refine SW.skip ?_ | refine SW.exit ?_ | intro _ | refine And.intro (by omega) ?_) | simp (config := { maxSteps := 1000000 }) (disch := (first | omega | (simp only [go_sem]; try omega))) only [go_sem, Nat.reduceAdd, Nat.reduceEqDiff, Nat.reduceLeDiff, Nat.reduceMul, Nat.reduceLT, reduceIte, Int.reduceToNat, w64_id, cast_succ])
        refine SLoop.next (N - (m + 1)) (by omega) ⟨m + 1, by omega, rfl, ?_, rfl⟩
        rw [hls, hss]; simp [go_sem]
    · rw [if_neg h0] at hls
      have hd : decide (cmpSS (imgS p bs) B < 0) = false := decide_eq_false h0
      repeat (first | (with_reducible first | refine SW.seq ?_ | refine SW.block ?_ | refine SW.rowC ?_ | refine SW.skip ?_ | refine SW.exit ?_ | intro _ | refine And.intro (by omega) ?_) | simp (config := { maxSteps := 1000000 }) (disch := (first | omega | (simp only [go_sem]; try omega))) only [go_sem, Nat.reduceAdd, Nat.reduceEqDiff, Nat.reduceLeDiff, Nat.reduceMul, Nat.reduceLT, reduceIte, Int.reduceToNat, w64_id, cast_succ, hd])
      refine SW.condF rfl ?_
      repeat (first | (with_reducible first | refine SW.seq ?_ | refine SW.block ?_ | refine SW.rowC ?_ | refine SW.skip ?_ | refine SW.exit ?_ | refine PFn.use (hlc2) ?_ | refine PFn.useq (hlc2) ?_ | intro _ | refine And.intro (by omega) ?_) | simp (config := { maxSteps := 1000000 }) (disch := (first | omega | (simp only [go_sem]; try omega))) only [go_sem, Nat.reduceAdd, Nat.reduceEqDiff, Nat.reduceLeDiff, Nat.reduceMul, Nat.reduceLT, reduceIte, Int.reduceToNat, w64_id, cast_succ])
      by_cases h9 : cmpSS (imgS p bs) bs = 0
      · rw [if_pos h9] at hss
        have hd2 : decide (cmpSS (imgS p bs) bs = 0) = true := decide_eq_true h9
        repeat (first | (with_reducible first | refine SW.seq ?_ | refine SW.block ?_ | refine SW.rowC ?_ | refine SW.skip ?_ | refine SW.exit ?_ | intro _ | refine And.intro (by omega) ?_) | simp (config := { maxSteps := 1000000 }) (disch := (first | omega | (simp only [go_sem]; try omega))) only [go_sem, Nat.reduceAdd, Nat.reduceEqDiff, Nat.reduceLeDiff, Nat.reduceMul, Nat.reduceLT, reduceIte, Int.reduceToNat, w64_id, cast_succ, hd2])
        refine SW.condT rfl ?_
        repeat (first | (with_reducible first | refine SW.seq ?_ | refine SW.block ?_ | refine SW.rowC ?_ | refine SW.skip ?_ | refine SW.exit ?_ | intro _ | refine And.intro (by omega) ?_) | simp (config := { maxSteps := 1000000 }) (disch := (first | omega | (simp only [go_sem]; try omega))) only [go_sem, Nat.reduceAdd, Nat.reduceEqDiff, Nat.reduceLeDiff, Nat.reduceMul, Nat.reduceLT, reduceIte, Int.reduceToNat, w64_id, cast_succ])
        refine SLoop.next (N - (m + 1)) (by omega) ⟨m + 1, by omega, rfl, ?_, rfl⟩
        rw [hls, hss]; simp [go_sem]
      · rw [if_neg h9] at hss
        have hd2 : decide (cmpSS (imgS p bs) bs = 0) = false := decide_eq_false h9
        repeat (first | (with_reducible first | refine SW.seq ?_ | refine SW.block ?_ | refine SW.rowC ?_ | refine SW.skip ?_ | refine SW.exit ?_ | intro _ | refine And.intro (by omega) ?_) | simp (config := { maxSteps := 1000000 }) (disch := (first | omega | (simp only [go_sem]; try omega))) only [go_sem, Nat.reduceAdd, Nat.reduceEqDiff, Nat.reduceLeDiff, Nat.reduceMul, Nat.reduceLT, reduceIte, Int.reduceToNat, w64_id, cast_succ, hd2])
        refine SW.condF rfl ?_
        repeat (first | (with_reducible first | refine SW.seq ?_ | refine SW.block ?_ | refine SW.rowC ?_ | refine SW.skip ?_ | refine SW.exit ?_ | intro _ | refine And.intro (by omega) ?_) | simp (config := { maxSteps := 1000000 }) (disch := (first | omega | (simp only [go_sem]; try omega))) only [go_sem, Nat.reduceAdd, Nat.reduceEqDiff, Nat.reduceLeDiff, Nat.reduceMul, Nat.reduceLT, reduceIte, Int.reduceToNat, w64_id, cast_succ])
        refine SLoop.next (N - (m + 1)) (by omega) ⟨m + 1, by omega, rfl, ?_, rfl⟩
        rw [hls, hss]; simp [go_sem]
  · have : m = N := by omega
    subst this
    rw [hB0, hC0]
    repeat (first | (with_reducible first | refine SW.seq ?_ | refine SW.block ?_ | refine SW.rowC ?_ | refine SW.skip ?_ | refine SW.exit ?_ | intro _ | refine And.intro (by omega) ?_) | simp (config := { maxSteps := 1000000 }) (disch := (first | omega | (simp only [go_sem]; try omega))) only [go_sem, Nat.reduceAdd, Nat.reduceEqDiff, Nat.reduceLeDiff, Nat.reduceMul, Nat.reduceLT, reduceIte, Int.reduceToNat, w64_id, cast_succ])
    refine SW.ret ?_; (try simp only [go_sem]); (first | refine FunPost.one ?_ | refine FunPost.two ?_ | refine FunPost.three ?_); (try simp (config := { maxSteps := 1000000 }) (disch := (first | omega | (simp only [go_sem]; try omega))) only [go_sem, Nat.reduceAdd, Nat.reduceEqDiff, Nat.reduceLeDiff, Nat.reduceMul, Nat.reduceLT, reduceIte, Int.reduceToNat, w64_id, cast_succ]); (first | (with_reducible refine GR.drop ?_ ?_; (simp only [go_sem, and_self, and_true, true_and, implies_true, List.take_succ_cons, List.take_zero])) | refine GR.of ?_); refine ⟨?_, rfl⟩; (try with_reducible rfl)
theorem implSysAut_fn (v : Int) (bs : List (List Int)) (hl : bs.length ≤ 2000000) : PFn Tryz.prog f_impl_SystemAutomorphisms [I v, ilSS bs] (if systemOk v bs = true then .tup [I (sameC bs (perms v.toNat)), I 0] else .tup [I 0, I 1]) := by
  have hv := implValidSystem_fn v bs
  by_cases h : systemOk v bs = true
  · rw [if_pos h]
    rw [h] at hv
    obtain ⟨n, rfl, hs⟩ := sysOk_of h
    rw [show ((n : Int)).toNat = n from rfl]
    have hpm : ∀ p ∈ perms n, permOk n p := fun p hp => perms_ok hp
    have hpl : (perms n).length ≤ 720 := by unfold perms; rw [List.length_map, List.length_range]; exact fct_le hs.2.1
    have hap := allPermutations_fn n hs.2.1
    generalize perms n = P at *
    intro H; refine ACalls.introB s_impl_SystemAutomorphisms (by simp) ?_; intro hB hA; unfold c_impl_SystemAutomorphisms; simp (config := { maxSteps := 1000000 }) (disch := (first | omega | (simp only [go_sem]; try omega))) only [go_sem, Nat.reduceAdd, Nat.reduceEqDiff, Nat.reduceLeDiff, Nat.reduceMul, Nat.reduceLT, reduceIte, Int.reduceToNat, w64_id, cast_succ]
    repeat (first | (with_reducible first | refine SW.seq ?_ | refine SW.block ?_ | refine SW.rowC ?_ | refine SW.skip ?_ | refine SW.exit ?_ | refine PFn.use (hv) ?_ | refine PFn.useq (hv) ?_ | intro _ | refine And.intro (by omega) ?_) | simp (config := { maxSteps := 1000000 }) (disch := (first | omega | (simp only [go_sem]; try omega))) only [go_sem, Nat.reduceAdd, Nat.reduceEqDiff, Nat.reduceLeDiff, Nat.reduceMul, Nat.reduceLT, reduceIte, Int.reduceToNat, w64_id, cast_succ])
    refine SW.condF rfl ?_
    repeat (first | (with_reducible first | refine SW.seq ?_ | refine SW.block ?_ | refine SW.rowC ?_ | refine SW.skip ?_ | refine SW.exit ?_ | refine PFn.use (hap) ?_ | refine PFn.useq (hap) ?_ | intro _ | refine And.intro (by omega) ?_) | simp (config := { maxSteps := 1000000 }) (disch := (first | omega | (simp only [go_sem]; try omega))) only [go_sem, Nat.reduceAdd, Nat.reduceEqDiff, Nat.reduceLeDiff, Nat.reduceMul, Nat.reduceLT, reduceIte, Int.reduceToNat, w64_id, cast_succ])
    refine SW.loopE (fun E0 H0 q E' H' => ∃ (pre post : List (List Int)), P = pre ++ post ∧ q = post.length ∧ E' = aput (aput E0 16 (I pre.length)) 6 (I (sameC bs pre)) ∧ H' = H0) P.length ⟨[], P, rfl, rfl, rfl, rfl⟩ ?_
    rintro q E' H' ⟨pre, post, hpp, rfl, rfl, rfl⟩
    have hsl := sameC_len bs pre
    have hpl2 : pre.length ≤ 720 := by rw [hpp] at hpl; simp at hpl; omega
    simp (config := { maxSteps := 1000000 }) (disch := (first | omega | (simp only [go_sem]; try omega))) only [go_sem, Nat.reduceAdd, Nat.reduceEqDiff, Nat.reduceLeDiff, Nat.reduceMul, Nat.reduceLT, reduceIte, Int.reduceToNat, w64_id, cast_succ]
    repeat (first | (with_reducible first | refine SW.seq ?_ | refine SW.block ?_ | refine SW.rowC ?_ | refine SW.skip ?_ | refine SW.exit ?_ | intro _ | refine And.intro (by omega) ?_) | simp (config := { maxSteps := 1000000 }) (disch := (first | omega | (simp only [go_sem]; try omega))) only [go_sem, Nat.reduceAdd, Nat.reduceEqDiff, Nat.reduceLeDiff, Nat.reduceMul, Nat.reduceLT, reduceIte, Int.reduceToNat, w64_id, cast_succ])
    (first | refine SW.condD rfl (fun h => ?_) (fun h => ?_) | refine SW.condN rfl (fun h => ?_) (fun h => ?_) | refine SW.condNB rfl (fun h => ?_) (fun h => ?_) | refine SW.condB rfl (fun h => ?_) (fun h => ?_))
    · obtain ⟨p, post, rfl, hg, -⟩ := consOf (d := []) hpp (by omega)
      have hp := hpm p (by rw [hpp]; simp)
      have hss := sameC_snoc bs pre p
      generalize sameC bs pre = C at *
      have hsi := systemImage_fn n p bs (by have := hs.2.1; omega) hp hs.2.2.1 hs.2.2.2 hl
      have hcs := compareSystems_fn (imgS p bs) bs
      repeat (first | (with_reducible first | refine SW.seq ?_ | refine SW.block ?_ | refine SW.rowC ?_ | refine SW.skip ?_ | refine SW.exit ?_ | refine PFn.use (hsi) ?_ | refine PFn.useq (hsi) ?_ | refine PFn.use (hcs) ?_ | refine PFn.useq (hcs) ?_ | intro _ | refine And.intro (by omega) ?_) | simp (config := { maxSteps := 1000000 }) (disch := (first | omega | (simp only [go_sem]; try omega))) only [go_sem, Nat.reduceAdd, Nat.reduceEqDiff, Nat.reduceLeDiff, Nat.reduceMul, Nat.reduceLT, reduceIte, Int.reduceToNat, w64_id, cast_succ, hg])
      by_cases h0 : cmpSS (imgS p bs) bs = 0
      · rw [if_pos h0] at hss
        have hd : decide (cmpSS (imgS p bs) bs = 0) = true := decide_eq_true h0
        repeat (first | (with_reducible first | refine SW.seq ?_ | refine SW.block ?_ | refine SW.rowC ?_ | refine SW.skip ?_ | refine SW.exit ?_ | intro _ | refine And.intro (by omega) ?_) | simp (config := { maxSteps := 1000000 }) (disch := (first | omega | (simp only [go_sem]; try omega))) only [go_sem, Nat.reduceAdd, Nat.reduceEqDiff, Nat.reduceLeDiff, Nat.reduceMul, Nat.reduceLT, reduceIte, Int.reduceToNat, w64_id, cast_succ, hd])
        refine SW.condT rfl ?_
        repeat (first | (with_reducible first | refine SW.seq ?_ | refine SW.block ?_ | refine SW.rowC ?_ | refine SW.skip ?_ | refine SW.exit ?_ | intro _ | refine And.intro (by omega) ?_) | simp (config := { maxSteps := 1000000 }) (disch := (first | omega | (simp only [go_sem]; try omega))) only [go_sem, Nat.reduceAdd, Nat.reduceEqDiff, Nat.reduceLeDiff, Nat.reduceMul, Nat.reduceLT, reduceIte, Int.reduceToNat, w64_id, cast_succ])
        refine SLoop.next post.length (by simp) ⟨pre ++ [p], post, by simp [hpp], rfl, ?_, rfl⟩
        rw [hss]; simp [go_sem]
      · rw [if_neg h0] at hss
        have hd : decide (cmpSS (imgS p bs) bs = 0) = false := decide_eq_false h0
        repeat (first | (with_reducible first | refine SW.seq ?_ | refine SW.block ?_ | refine SW.rowC ?_ | refine SW.skip ?_ | refine SW.exit ?_ | intro _ | refine And.intro (by omega) ?_) | simp (config := { maxSteps := 1000000 }) (disch := (first | omega | (simp only [go_sem]; try omega))) only [go_sem, Nat.reduceAdd, Nat.reduceEqDiff, Nat.reduceLeDiff, Nat.reduceMul, Nat.reduceLT, reduceIte, Int.reduceToNat, w64_id, cast_succ, hd])
        refine SW.condF rfl ?_
        repeat (first | (with_reducible first | refine SW.seq ?_ | refine SW.block ?_ | refine SW.rowC ?_ | refine SW.skip ?_ | refine SW.exit ?_ | intro _ | refine And.intro (by omega) ?_) | simp (config := { maxSteps := 1000000 }) (disch := (first | omega | (simp only [go_sem]; try omega))) only [go_sem, Nat.reduceAdd, Nat.reduceEqDiff, Nat.reduceLeDiff, Nat.reduceMul, Nat.reduceLT, reduceIte, Int.reduceToNat, w64_id, cast_succ])
        refine SLoop.next post.length (by simp) ⟨pre ++ [p], post, by simp [hpp], rfl, ?_, rfl⟩
        rw [hss]; simp [go_sem]
    · obtain ⟨rfl, rfl⟩ := nilOf hpp (by omega)
      repeat (first | (with_reducible first | refine SW.seq ?_ | refine SW.block ?_ | refine SW.rowC ?_ | refine SW.skip ?_ | refine SW.exit ?_ | intro _ | refine And.intro (by omega) ?_) | simp (config := { maxSteps := 1000000 }) (disch := (first | omega | (simp only [go_sem]; try omega))) only [go_sem, Nat.reduceAdd, Nat.reduceEqDiff, Nat.reduceLeDiff, Nat.reduceMul, Nat.reduceLT, reduceIte, Int.reduceToNat, w64_id, cast_succ])
      refine SW.ret ?_; (try simp only [go_sem]); (first | refine FunPost.one ?_ | refine FunPost.two ?_ | refine FunPost.three ?_); (try simp (config := { maxSteps := 1000000 }) (disch := (first | omega | (simp only [go_sem]; try omega))) only [go_sem, Nat.reduceAdd, Nat.reduceEqDiff, Nat.reduceLeDiff, Nat.reduceMul, Nat.reduceLT, reduceIte, Int.reduceToNat, w64_id, cast_succ]); (first | (with_reducible refine GR.drop ?_ ?_; (simp only [go_sem, and_self, and_true, true_and, implies_true, List.take_succ_cons, List.take_zero])) | refine GR.of ?_); refine ⟨?_, rfl⟩; (try with_reducible rfl)
  · rw [if_neg h]
    rw [Bool.not_eq_true] at h
    rw [h] at hv
    intro H; refine ACalls.introB s_impl_SystemAutomorphisms (by simp) ?_; intro hB hA; unfold c_impl_SystemAutomorphisms; simp (config := { maxSteps := 1000000 }) (disch := (first | omega | (simp only [go_sem]; try omega))) only [go_sem, Nat.reduceAdd, Nat.reduceEqDiff, Nat.reduceLeDiff, Nat.reduceMul, Nat.reduceLT, reduceIte, Int.reduceToNat, w64_id, cast_succ]
    repeat (first | (with_reducible first | refine SW.seq ?_ | refine SW.block ?_ | refine SW.rowC ?_ | refine SW.skip ?_ | refine SW.exit ?_ | refine PFn.use (hv) ?_ | refine PFn.useq (hv) ?_ | intro _ | refine And.intro (by omega) ?_) | simp (config := { maxSteps := 1000000 }) (disch := (first | omega | (simp only [go_sem]; try omega))) only [go_sem, Nat.reduceAdd, Nat.reduceEqDiff, Nat.reduceLeDiff, Nat.reduceMul, Nat.reduceLT, reduceIte, Int.reduceToNat, w64_id, cast_succ])
    refine SW.condT rfl ?_
    repeat (first | (with_reducible first | refine SW.seq ?_ | refine SW.block ?_ | refine SW.rowC ?_ | refine SW.skip ?_ | refine SW.exit ?_ | intro _ | refine And.intro (by omega) ?_) | simp (config := { maxSteps := 1000000 }) (disch := (first | omega | (simp only [go_sem]; try omega))) only [go_sem, Nat.reduceAdd, Nat.reduceEqDiff, Nat.reduceLeDiff, Nat.reduceMul, Nat.reduceLT, reduceIte, Int.reduceToNat, w64_id, cast_succ])
    refine SW.ret ?_; (try simp only [go_sem]); (first | refine FunPost.one ?_ | refine FunPost.two ?_ | refine FunPost.three ?_); (try simp (config := { maxSteps := 1000000 }) (disch := (first | omega | (simp only [go_sem]; try omega))) only [go_sem, Nat.reduceAdd, Nat.reduceEqDiff, Nat.reduceLeDiff, Nat.reduceMul, Nat.reduceLT, reduceIte, Int.reduceToNat, w64_id, cast_succ]); (first | (with_reducible refine GR.drop ?_ ?_; (simp only [go_sem, and_self, and_true, true_and, implies_true, List.take_succ_cons, List.take_zero])) | refine GR.of ?_); refine ⟨?_, rfl⟩; (try with_reducible rfl)
theorem GR.froz0 {H0 : List Blk} {R : AV → List Blk → Prop} {r r' : AV} (hf : Froz H0 H0.length r r') (h : R r' H0) : GR H0 R r H0 := by
  have e := GR.froz (H0 := H0) (ext := []) (R := R) (r := r) (r' := r') (by rw [List.append_nil]; exact hf) h
  rw [List.append_nil] at e
  exact e
def leastV (v : Int) (bs : List (List Int)) : List (List Int) × Int := if systemOk v bs = true then (leastF bs (perms v.toNat), 0) else ([], 1)
theorem leastSystem_own (H : List Blk) (n : Nat) (bs : List (List Int)) (hs : sysOk n bs) (hl : bs.length ≤ 2000000) : ACalls Tryz.prog f_impl_leastSystem [I n, ilSS bs] H (fun r H' => ∃ ext, H' = H ++ ext ∧ OwnSS H' (Btw H.length H'.length) r (leastF bs (perms n))) := by
  have hpm : ∀ p ∈ perms n, permOk n p := fun p hp => perms_ok hp
  have hap := allPermutations_fn n hs.2.1
  have hok := leastF_ok hs (perms n) hpm
  generalize perms n = P at *
  refine ACalls.introB s_impl_leastSystem (by simp) ?_; intro hB hA; unfold c_impl_leastSystem; simp (config := { maxSteps := 1000000 }) (disch := (first | omega | (simp only [go_sem]; try omega))) only [go_sem, Nat.reduceAdd, Nat.reduceEqDiff, Nat.reduceLeDiff, Nat.reduceMul, Nat.reduceLT, reduceIte, Int.reduceToNat, w64_id, cast_succ]
  repeat (first | (with_reducible first | refine SW.seq ?_ | refine SW.block ?_ | refine SW.rowC ?_ | refine SW.skip ?_ | refine SW.exit ?_ | refine PFn.use (hap) ?_ | refine PFn.useq (hap) ?_ | intro _ | refine And.intro (by omega) ?_) | simp (config := { maxSteps := 1000000 }) (disch := (first | omega | (simp only [go_sem]; try omega))) only [go_sem, Nat.reduceAdd, Nat.reduceEqDiff, Nat.reduceLeDiff, Nat.reduceMul, Nat.reduceLT, reduceIte, Int.reduceToNat, w64_id, cast_succ])
  refine SW.loopE (fun E0 H0 q E' H' => ∃ (pre post : List (List Int)), P = pre ++ post ∧ q = post.length ∧ E' = aput (aput E0 13 (I pre.length)) 5 (ilSS (leastF bs pre)) ∧ H' = H0) P.length ⟨[], P, rfl, rfl, rfl, rfl⟩ ?_
  rintro q E' H' ⟨pre, post, hpp, rfl, rfl, rfl⟩
  simp (config := { maxSteps := 1000000 }) (disch := (first | omega | (simp only [go_sem]; try omega))) only [go_sem, Nat.reduceAdd, Nat.reduceEqDiff, Nat.reduceLeDiff, Nat.reduceMul, Nat.reduceLT, reduceIte, Int.reduceToNat, w64_id, cast_succ]
  repeat (first | (with_reducible first | refine SW.seq ?_ | refine SW.block ?_ | refine SW.rowC ?_ | refine SW.skip ?_ | refine SW.exit ?_ | intro _ | refine And.intro (by omega) ?_) | simp (config := { maxSteps := 1000000 }) (disch := (first | omega | (simp only [go_sem]; try omega))) only [go_sem, Nat.reduceAdd, Nat.reduceEqDiff, Nat.reduceLeDiff, Nat.reduceMul, Nat.reduceLT, reduceIte, Int.reduceToNat, w64_id, cast_succ])
  (first | refine SW.condD rfl (fun h => ?_) (fun h => ?_) | refine SW.condN rfl (fun h => ?_) (fun h => ?_) | refine SW.condNB rfl (fun h => ?_) (fun h => ?_) | refine SW.condB rfl (fun h => ?_) (fun h => ?_))
  · obtain ⟨p, post, rfl, hg, -⟩ := consOf (d := []) hpp (by omega)
    have hp := hpm p (by rw [hpp]; simp)
    have hls := leastF_snoc bs pre p
    generalize leastF bs pre = B at *
    have hsi := systemImage_fn n p bs (by have := hs.2.1; omega) hp hs.2.2.1 hs.2.2.2 hl
    have hcs := compareSystems_fn (imgS p bs) B
    repeat (first | (with_reducible first | refine SW.seq ?_ | refine SW.block ?_ | refine SW.rowC ?_ | refine SW.skip ?_ | refine SW.exit ?_ | refine PFn.use (hsi) ?_ | refine PFn.useq (hsi) ?_ | refine PFn.use (hcs) ?_ | refine PFn.useq (hcs) ?_ | intro _ | refine And.intro (by omega) ?_) | simp (config := { maxSteps := 1000000 }) (disch := (first | omega | (simp only [go_sem]; try omega))) only [go_sem, Nat.reduceAdd, Nat.reduceEqDiff, Nat.reduceLeDiff, Nat.reduceMul, Nat.reduceLT, reduceIte, Int.reduceToNat, w64_id, cast_succ, hg])
    by_cases h0 : cmpSS (imgS p bs) B < 0
    · rw [if_pos h0] at hls
      have hd : decide (cmpSS (imgS p bs) B < 0) = true := decide_eq_true h0
      repeat (first | (with_reducible first | refine SW.seq ?_ | refine SW.block ?_ | refine SW.rowC ?_ | refine SW.skip ?_ | refine SW.exit ?_ | intro _ | refine And.intro (by omega) ?_) | simp (config := { maxSteps := 1000000 }) (disch := (first | omega | (simp only [go_sem]; try omega))) only [go_sem, Nat.reduceAdd, Nat.reduceEqDiff, Nat.reduceLeDiff, Nat.reduceMul, Nat.reduceLT, reduceIte, Int.reduceToNat, w64_id, cast_succ, hd])
      refine SW.condT rfl ?_
      repeat (first | (with_reducible first | refine SW.seq ?_ | refine SW.block ?_ | refine SW.rowC ?_ | refine SW.skip ?_ | refine SW.exit ?_ | intro _ | refine And.intro (by omega) ?_) | simp (config := { maxSteps := 1000000 }) (disch := (first | omega | (simp only [go_sem]; try omega))) only [go_sem, Nat.reduceAdd, Nat.reduceEqDiff, Nat.reduceLeDiff, Nat.reduceMul, Nat.reduceLT, reduceIte, Int.reduceToNat, w64_id, cast_succ])
      refine SLoop.next post.length (by simp) ⟨pre ++ [p], post, by simp [hpp], rfl, ?_, rfl⟩
      rw [hls]; simp [go_sem]
    · rw [if_neg h0] at hls
      have hd : decide (cmpSS (imgS p bs) B < 0) = false := decide_eq_false h0
      repeat (first | (with_reducible first | refine SW.seq ?_ | refine SW.block ?_ | refine SW.rowC ?_ | refine SW.skip ?_ | refine SW.exit ?_ | intro _ | refine And.intro (by omega) ?_) | simp (config := { maxSteps := 1000000 }) (disch := (first | omega | (simp only [go_sem]; try omega))) only [go_sem, Nat.reduceAdd, Nat.reduceEqDiff, Nat.reduceLeDiff, Nat.reduceMul, Nat.reduceLT, reduceIte, Int.reduceToNat, w64_id, cast_succ, hd])
      refine SW.condF rfl ?_
      repeat (first | (with_reducible first | refine SW.seq ?_ | refine SW.block ?_ | refine SW.rowC ?_ | refine SW.skip ?_ | refine SW.exit ?_ | intro _ | refine And.intro (by omega) ?_) | simp (config := { maxSteps := 1000000 }) (disch := (first | omega | (simp only [go_sem]; try omega))) only [go_sem, Nat.reduceAdd, Nat.reduceEqDiff, Nat.reduceLeDiff, Nat.reduceMul, Nat.reduceLT, reduceIte, Int.reduceToNat, w64_id, cast_succ])
      refine SLoop.next post.length (by simp) ⟨pre ++ [p], post, by simp [hpp], rfl, ?_, rfl⟩
      rw [hls]; simp [go_sem]
  · obtain ⟨rfl, rfl⟩ := nilOf hpp (by omega)
    repeat (first | (with_reducible first | refine SW.seq ?_ | refine SW.block ?_ | refine SW.rowC ?_ | refine SW.skip ?_ | refine SW.exit ?_ | intro _ | refine And.intro (by omega) ?_) | simp (config := { maxSteps := 1000000 }) (disch := (first | omega | (simp only [go_sem]; try omega))) only [go_sem, Nat.reduceAdd, Nat.reduceEqDiff, Nat.reduceLeDiff, Nat.reduceMul, Nat.reduceLT, reduceIte, Int.reduceToNat, w64_id, cast_succ])
    refine (copyLists_own _ (leastF bs pre) (by omega) (fun x hx => by have := hok.2 x hx; omega)).mono ?_
    rintro r H1 ⟨ext, rfl, ho⟩
    repeat (first | (with_reducible first | refine SW.seq ?_ | refine SW.block ?_ | refine SW.rowC ?_ | refine SW.skip ?_ | refine SW.exit ?_ | intro _ | refine And.intro (by omega) ?_) | simp (config := { maxSteps := 1000000 }) (disch := (first | omega | (simp only [go_sem]; try omega))) only [go_sem, Nat.reduceAdd, Nat.reduceEqDiff, Nat.reduceLeDiff, Nat.reduceMul, Nat.reduceLT, reduceIte, Int.reduceToNat, w64_id, cast_succ, ho.oneU.1, ho.oneU.2])
    refine SW.ret ?_; (try simp only [go_sem]); (first | refine FunPost.one ?_ | refine FunPost.two ?_ | refine FunPost.three ?_); (try simp (config := { maxSteps := 1000000 }) (disch := (first | omega | (simp only [go_sem]; try omega))) only [go_sem, Nat.reduceAdd, Nat.reduceEqDiff, Nat.reduceLeDiff, Nat.reduceMul, Nat.reduceLT, reduceIte, Int.reduceToNat, w64_id, cast_succ])
    exact GR.of ⟨ext, rfl, ho⟩
theorem implLeast_fss (v : Int) (bs : List (List Int)) (hl : bs.length ≤ 2000000) : FSS Tryz.prog f_impl_LeastSystem [I v, ilSS bs] (leastV v bs).1 (leastV v bs).2 := by
  have hv := implValidSystem_fn v bs
  intro H
  unfold leastV
  by_cases h : systemOk v bs = true
  · rw [if_pos h]
    rw [h] at hv
    obtain ⟨n, rfl, hs⟩ := sysOk_of h
    rw [show ((n : Int)).toNat = n from rfl]
    refine ACalls.introB s_impl_LeastSystem (by simp) ?_; intro hB hA; unfold c_impl_LeastSystem; simp (config := { maxSteps := 1000000 }) (disch := (first | omega | (simp only [go_sem]; try omega))) only [go_sem, Nat.reduceAdd, Nat.reduceEqDiff, Nat.reduceLeDiff, Nat.reduceMul, Nat.reduceLT, reduceIte, Int.reduceToNat, w64_id, cast_succ]
    repeat (first | (with_reducible first | refine SW.seq ?_ | refine SW.block ?_ | refine SW.rowC ?_ | refine SW.skip ?_ | refine SW.exit ?_ | refine PFn.use (hv) ?_ | refine PFn.useq (hv) ?_ | intro _ | refine And.intro (by omega) ?_) | simp (config := { maxSteps := 1000000 }) (disch := (first | omega | (simp only [go_sem]; try omega))) only [go_sem, Nat.reduceAdd, Nat.reduceEqDiff, Nat.reduceLeDiff, Nat.reduceMul, Nat.reduceLT, reduceIte, Int.reduceToNat, w64_id, cast_succ])
    refine SW.condF rfl ?_
    repeat (first | (with_reducible first | refine SW.seq ?_ | refine SW.block ?_ | refine SW.rowC ?_ | refine SW.skip ?_ | refine SW.exit ?_ | intro _ | refine And.intro (by omega) ?_) | simp (config := { maxSteps := 1000000 }) (disch := (first | omega | (simp only [go_sem]; try omega))) only [go_sem, Nat.reduceAdd, Nat.reduceEqDiff, Nat.reduceLeDiff, Nat.reduceMul, Nat.reduceLT, reduceIte, Int.reduceToNat, w64_id, cast_succ])
    refine (leastSystem_own _ n bs hs hl).mono ?_
    rintro r H1 ⟨ext, rfl, ho⟩
    repeat (first | (with_reducible first | refine SW.seq ?_ | refine SW.block ?_ | refine SW.rowC ?_ | refine SW.skip ?_ | refine SW.exit ?_ | intro _ | refine And.intro (by omega) ?_) | simp (config := { maxSteps := 1000000 }) (disch := (first | omega | (simp only [go_sem]; try omega))) only [go_sem, Nat.reduceAdd, Nat.reduceEqDiff, Nat.reduceLeDiff, Nat.reduceMul, Nat.reduceLT, reduceIte, Int.reduceToNat, w64_id, cast_succ, ho.oneU.1, ho.oneU.2])
    refine SW.ret ?_; (try simp only [go_sem]); (first | refine FunPost.one ?_ | refine FunPost.two ?_ | refine FunPost.three ?_); (try simp (config := { maxSteps := 1000000 }) (disch := (first | omega | (simp only [go_sem]; try omega))) only [go_sem, Nat.reduceAdd, Nat.reduceEqDiff, Nat.reduceLeDiff, Nat.reduceMul, Nat.reduceLT, reduceIte, Int.reduceToNat, w64_id, cast_succ])
    exact GR.of ⟨ext, r, rfl, rfl, ho⟩
  · rw [if_neg h]
    rw [Bool.not_eq_true] at h
    rw [h] at hv
    refine ACalls.introB s_impl_LeastSystem (by simp) ?_; intro hB hA; unfold c_impl_LeastSystem; simp (config := { maxSteps := 1000000 }) (disch := (first | omega | (simp only [go_sem]; try omega))) only [go_sem, Nat.reduceAdd, Nat.reduceEqDiff, Nat.reduceLeDiff, Nat.reduceMul, Nat.reduceLT, reduceIte, Int.reduceToNat, w64_id, cast_succ]
    repeat (first | (with_reducible first | refine SW.seq ?_ | refine SW.block ?_ | refine SW.rowC ?_ | refine SW.skip ?_ | refine SW.exit ?_ | refine PFn.use (hv) ?_ | refine PFn.useq (hv) ?_ | intro _ | refine And.intro (by omega) ?_) | simp (config := { maxSteps := 1000000 }) (disch := (first | omega | (simp only [go_sem]; try omega))) only [go_sem, Nat.reduceAdd, Nat.reduceEqDiff, Nat.reduceLeDiff, Nat.reduceMul, Nat.reduceLT, reduceIte, Int.reduceToNat, w64_id, cast_succ])
    refine SW.condT rfl ?_
    repeat (first | (with_reducible first | refine SW.seq ?_ | refine SW.block ?_ | refine SW.rowC ?_ | refine SW.skip ?_ | refine SW.exit ?_ | intro _ | refine And.intro (by omega) ?_) | simp (config := { maxSteps := 1000000 }) (disch := (first | omega | (simp only [go_sem]; try omega))) only [go_sem, Nat.reduceAdd, Nat.reduceEqDiff, Nat.reduceLeDiff, Nat.reduceMul, Nat.reduceLT, reduceIte, Int.reduceToNat, w64_id, cast_succ])
    refine SW.ret ?_; (try simp only [go_sem]); (first | refine FunPost.one ?_ | refine FunPost.two ?_ | refine FunPost.three ?_); (try simp (config := { maxSteps := 1000000 }) (disch := (first | omega | (simp only [go_sem]; try omega))) only [go_sem, Nat.reduceAdd, Nat.reduceEqDiff, Nat.reduceLeDiff, Nat.reduceMul, Nat.reduceLT, reduceIte, Int.reduceToNat, w64_id, cast_succ])
    exact GR.of nilFSS0
end Go.Proofs.YthogadbnddmkdaaGreat
