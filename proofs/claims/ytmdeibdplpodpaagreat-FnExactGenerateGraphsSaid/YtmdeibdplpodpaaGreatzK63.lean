/- Systems compared; all permutations; copies. -/
import Derived.Test.YtmdeibdplpodpaaGreatProg
import Derived.KernelRfl
import Derived.Test.YtmdeibdplpodpaaGreatzK62
import Derived.Test.YtmdeibdplpodpaaGreatzK66
import Derived.Test.YtmdeibdplpodpaaGreatzM2
import Derived.Test.YtmdeibdplpodpaaGreatzC1
import Derived.Test.YtmdeibdplpodpaaGreatzOW
set_option linter.unusedSimpArgs false
set_option linter.unusedVariables false
set_option maxHeartbeats 4000000
set_option maxRecDepth 100000
namespace Go.Proofs.YtmdeibdplpodpaaGreat
open Go.Av
abbrev f_spec_l27Compare : Nat := 75
def c_spec_l27Compare : SC :=
 .seq (.reg [
     ⟨(some 4), .mv (.const (.int .i64 0)), none⟩] [0, 1])
 (.seq (.seq (.reg [
     ⟨(some 5), .mv (.const (.int .i64 0)), none⟩] [0, 1, 5])
 (.block 0 (.loop [0, 1, 5]
   (.seq (.seq (.reg [
       ⟨(some 7), .mv (.tmp 5), none⟩,
       ⟨(some 8), .mv (.tmp 0), none⟩,
       ⟨(some 9), .len (.tmp 8), none⟩,
       ⟨(some 10), .bin .lss (.tmp 7) (.tmp 9), none⟩,
       ⟨(some 11), .mv (.tmp 10), none⟩,
       ⟨(some 12), .mv (.tmp 5), (some (11, true))⟩,
       ⟨(some 13), .mv (.tmp 1), (some (11, true))⟩,
       ⟨(some 14), .len (.tmp 13), (some (11, true))⟩,
       ⟨(some 15), .bin .lss (.tmp 12) (.tmp 14), (some (11, true))⟩,
       ⟨(some 16), .pick (.tmp 11) (.tmp 15) (.const (.bool false)), none⟩] [0, 1, 5, 16])
   (.cond (.tmp 16)
    (.skip)
    (.exit 0)))
   (.seq (.block 1 (.seq (.reg [
        ⟨(some 19), .mv (.tmp 0), none⟩,
        ⟨(some 20), .mv (.tmp 5), none⟩,
        ⟨(some 21), .iaddr 1 (.tmp 19) (.tmp 20), none⟩,
        ⟨(some 22), .load 1 false (.tmp 21), none⟩,
        ⟨(some 23), .mv (.tmp 1), none⟩,
        ⟨(some 24), .mv (.tmp 5), none⟩,
        ⟨(some 25), .iaddr 1 (.tmp 23) (.tmp 24), none⟩,
        ⟨(some 26), .load 1 false (.tmp 25), none⟩,
        ⟨(some 27), .qcall 76 [(.tmp 22), (.tmp 26)], none⟩,
        ⟨(some 6), .mv (.tmp 27), none⟩] [0, 1, 5, 6])
    (.seq (.reg [
        ⟨(some 28), .mv (.tmp 6), none⟩,
        ⟨(some 29), .bin .neq (.tmp 28) (.const (.int .i64 0)), none⟩] [0, 1, 5, 6, 29])
    (.cond (.tmp 29)
     (.seq (.reg [
         ⟨(some 30), .mv (.tmp 6), none⟩,
         ⟨(some 4), .mv (.tmp 30), none⟩] [4])
     (.ret))
     (.skip)))))
   (.reg [
       ⟨(some 17), .mv (.tmp 5), none⟩,
       ⟨(some 18), .bin .add (.tmp 17) (.const (.int .i64 1)), none⟩,
       ⟨(some 5), .mv (.tmp 18), none⟩] [0, 1, 5]))))))
 (.seq (.reg [
     ⟨(some 4), .mv (.const (.int .i64 0)), none⟩] [4])
 (.ret)))
theorem s_spec_l27Compare : stripF Tryz.prog 75 [[0, 1], [0, 1, 5], [0, 1, 5], [0, 1, 5, 16], [0, 1, 5, 6], [0, 1, 5, 6, 29], [4], [0, 1, 5], [4]] = some (c_spec_l27Compare, [.tmp 4], 31) := by kernel_rfl
abbrev f_impl_compareSystems : Nat := 83
def c_impl_compareSystems : SC :=
 .seq (.reg [
     ⟨(some 4), .mv (.const (.int .i64 0)), none⟩] [0, 1])
 (.seq (.reg [
     ⟨(some 5), .mv (.tmp 0), none⟩,
     ⟨(some 6), .mv (.tmp 1), none⟩,
     ⟨(some 7), .call 120 [(.tmp 5), (.tmp 6), (.func 80)], none⟩,
     ⟨(some 4), .mv (.tmp 7), none⟩] [4])
 (.ret))
theorem s_impl_compareSystems : stripF Tryz.prog 83 [[0, 1], [4]] = some (c_impl_compareSystems, [.tmp 4], 8) := by kernel_rfl
abbrev f_impl_allPermutations : Nat := 117
def c_impl_allPermutations : SC :=
 .seq (.reg [
     ⟨(some 2), .mv (.const (.slice none 0 0)), none⟩] [0])
 (.seq (.reg [
     ⟨(some 3), .mv (.const (.slice none 0 0)), none⟩] [0, 3])
 (.seq (.seq (.reg [
     ⟨(some 7), .mv (.tmp 0), none⟩,
     ⟨(some 8), .call 154 [(.tmp 7)], none⟩,
     ⟨(some 9), .mv (.const (.int .i64 0)), none⟩] [0, 3, 8, 9])
 (.block 0 (.loop [0, 3, 8, 9]
   (.seq (.reg [
       ⟨(some 10), .bin .lss (.tmp 9) (.tmp 8), none⟩] [0, 3, 8, 9, 10])
   (.seq (.cond (.tmp 10)
    (.skip)
    (.exit 0))
   (.seq (.block 1 (.seq (.reg [
        ⟨(some 11), .mv (.tmp 9), none⟩,
        ⟨(some 4), .mv (.tmp 11), none⟩] [0, 3, 4, 8, 9])
    (.seq (.reg [
        ⟨(some 13), .mv (.tmp 0), none⟩,
        ⟨(some 14), .mv (.tmp 4), none⟩,
        ⟨(some 15), .call 155 [(.tmp 13), (.tmp 14)], none⟩,
        ⟨(some 12), .mv (.tmp 15), none⟩,
        ⟨(some 16), .ext (.tmp 12) 0, none⟩,
        ⟨(some 17), .ext (.tmp 12) 1, none⟩,
        ⟨(some 5), .mv (.tmp 16), none⟩,
        ⟨(some 6), .mv (.tmp 17), none⟩] [0, 3, 5, 8, 9])
    (.reg [
        ⟨(some 18), .mv (.tmp 3), none⟩,
        ⟨(some 19), .mv (.tmp 5), none⟩,
        ⟨(some 20), .bslice 22 1 1 [(.slice none 0 0)] [(0, (.tmp 19))], none⟩,
        ⟨(some 21), .app 22 1 24 (.tmp 18) (.tmp 20), none⟩,
        ⟨(some 3), .mv (.tmp 21), none⟩] [0, 3, 8, 9]))))
   (.reg [
       ⟨(some 22), .bin .add (.tmp 9) (.const (.int .i64 1)), none⟩,
       ⟨(some 9), .mv (.tmp 22), none⟩] [0, 3, 8, 9])))))))
 (.seq (.reg [
     ⟨(some 23), .mv (.tmp 3), none⟩,
     ⟨(some 2), .mv (.tmp 23), none⟩] [2])
 (.ret))))
theorem s_impl_allPermutations : stripF Tryz.prog 117 [[0], [0, 3], [0, 3, 8, 9], [0, 3, 8, 9], [0, 3, 8, 9, 10], [0, 3, 4, 8, 9], [0, 3, 5, 8, 9], [0, 3, 8, 9], [0, 3, 8, 9], [2]] = some (c_impl_allPermutations, [.tmp 2], 24) := by kernel_rfl
abbrev f_slices_CompareFunc_LLint64_LLint64_Lint64_Lint64 : Nat := 120
def c_slices_CompareFunc_LLint64_LLint64_Lint64_Lint64 : SC :=
 .seq (.reg [
     ⟨(some 6), .mv (.const (.int .i64 0)), none⟩] [0, 1, 2])
 (.seq (.seq (.reg [
     ⟨(some 11), .mv (.tmp 0), none⟩,
     ⟨(some 12), .len (.tmp 11), none⟩,
     ⟨(some 13), .mv (.const (.int .i64 0)), none⟩] [0, 1, 2, 11, 12, 13])
 (.block 0 (.loop [0, 1, 2, 11, 12, 13]
   (.seq (.reg [
       ⟨(some 14), .bin .lss (.tmp 13) (.tmp 12), none⟩] [0, 1, 2, 11, 12, 13, 14])
   (.seq (.cond (.tmp 14)
    (.skip)
    (.exit 0))
   (.seq (.block 1 (.seq (.reg [
        ⟨(some 15), .mv (.tmp 13), none⟩,
        ⟨(some 16), .iaddr 1 (.tmp 11) (.tmp 13), none⟩,
        ⟨(some 17), .load 1 false (.tmp 16), none⟩,
        ⟨(some 7), .mv (.tmp 15), none⟩,
        ⟨(some 8), .mv (.tmp 17), none⟩] [0, 1, 2, 7, 8, 11, 12, 13])
    (.seq (.seq (.reg [
        ⟨(some 18), .mv (.tmp 7), none⟩,
        ⟨(some 19), .mv (.tmp 1), none⟩,
        ⟨(some 20), .len (.tmp 19), none⟩,
        ⟨(some 21), .bin .geq (.tmp 18) (.tmp 20), none⟩] [0, 1, 2, 7, 8, 11, 12, 13, 21])
    (.cond (.tmp 21)
     (.seq (.reg [
         ⟨(some 6), .mv (.const (.int .i64 1)), none⟩] [6])
     (.ret))
     (.skip)))
    (.seq (.reg [
        ⟨(some 22), .mv (.tmp 1), none⟩,
        ⟨(some 23), .mv (.tmp 7), none⟩,
        ⟨(some 24), .iaddr 1 (.tmp 22) (.tmp 23), none⟩,
        ⟨(some 25), .load 1 false (.tmp 24), none⟩,
        ⟨(some 9), .mv (.tmp 25), none⟩] [0, 1, 2, 8, 9, 11, 12, 13])
    (.seq (.reg [
        ⟨(some 26), .mv (.tmp 2), none⟩,
        ⟨(some 27), .mv (.tmp 8), none⟩,
        ⟨(some 28), .mv (.tmp 9), none⟩,
        ⟨(some 29), .callv (.tmp 26) [(.tmp 27), (.tmp 28)], none⟩,
        ⟨(some 10), .mv (.tmp 29), none⟩] [0, 1, 2, 10, 11, 12, 13])
    (.seq (.reg [
        ⟨(some 30), .mv (.tmp 10), none⟩,
        ⟨(some 31), .bin .neq (.tmp 30) (.const (.int .i64 0)), none⟩] [0, 1, 2, 10, 11, 12, 13, 31])
    (.cond (.tmp 31)
     (.seq (.reg [
         ⟨(some 32), .mv (.tmp 10), none⟩,
         ⟨(some 6), .mv (.tmp 32), none⟩] [6])
     (.ret))
     (.skip))))))))
   (.reg [
       ⟨(some 33), .bin .add (.tmp 13) (.const (.int .i64 1)), none⟩,
       ⟨(some 13), .mv (.tmp 33), none⟩] [0, 1, 2, 11, 12, 13])))))))
 (.seq (.seq (.reg [
     ⟨(some 34), .mv (.tmp 0), none⟩,
     ⟨(some 35), .len (.tmp 34), none⟩,
     ⟨(some 36), .mv (.tmp 1), none⟩,
     ⟨(some 37), .len (.tmp 36), none⟩,
     ⟨(some 38), .bin .lss (.tmp 35) (.tmp 37), none⟩] [38])
 (.cond (.tmp 38)
  (.seq (.reg [
      ⟨(some 6), .mv (.const (.int .i64 (-1))), none⟩] [6])
  (.ret))
  (.skip)))
 (.seq (.reg [
     ⟨(some 6), .mv (.const (.int .i64 0)), none⟩] [6])
 (.ret))))
theorem s_slices_CompareFunc_LLint64_LLint64_Lint64_Lint64 : stripF Tryz.prog 120 [[0, 1, 2], [0, 1, 2, 11, 12, 13], [0, 1, 2, 11, 12, 13], [0, 1, 2, 11, 12, 13, 14], [0, 1, 2, 7, 8, 11, 12, 13], [0, 1, 2, 7, 8, 11, 12, 13, 21], [6], [0, 1, 2, 8, 9, 11, 12, 13], [0, 1, 2, 10, 11, 12, 13], [0, 1, 2, 10, 11, 12, 13, 31], [6], [0, 1, 2, 11, 12, 13], [38], [6], [6]] = some (c_slices_CompareFunc_LLint64_LLint64_Lint64_Lint64, [.tmp 6], 39) := by kernel_rfl
theorem cmpSS_step (a : List (List Int)) (b : List (List Int)) (x : List Int) (i : Nat) (h : i < b.length) : cmpSS (x :: a) (b.drop i) = if cmpL x (b.getD i []) = 0 then cmpSS a (b.drop (i + 1)) else cmpL x (b.getD i []) := by
  rw [List.drop_eq_getElem_cons h, cmpSS]
  simp [List.getElem?_eq_getElem h]
theorem CompareFunc_fn (a b : List (List Int)) : PFn Tryz.prog f_slices_CompareFunc_LLint64_LLint64_Lint64_Lint64 [ilSS a, ilSS b, .fn f_slices_Compare_Lint64_int64 []] (I (cmpSS a b)) := by
  intro H; refine ACalls.introB s_slices_CompareFunc_LLint64_LLint64_Lint64_Lint64 (by simp) ?_; intro hB hA; unfold c_slices_CompareFunc_LLint64_LLint64_Lint64_Lint64; simp (config := { maxSteps := 1000000 }) (disch := (first | omega | (simp only [go_sem]; try omega))) only [go_sem, Nat.reduceAdd, Nat.reduceEqDiff, Nat.reduceLeDiff, Nat.reduceMul, Nat.reduceLT, reduceIte, Int.reduceToNat, w64_id, cast_succ]
  have hcb := slicesCompare_call
  repeat (first | (with_reducible first | refine SW.seq ?_ | refine SW.block ?_ | refine SW.rowC ?_ | refine SW.skip ?_ | refine SW.exit ?_ | intro _ | refine And.intro (by omega) ?_) | simp (config := { maxSteps := 1000000 }) (disch := (first | omega | (simp only [go_sem]; try omega))) only [go_sem, Nat.reduceAdd, Nat.reduceEqDiff, Nat.reduceLeDiff, Nat.reduceMul, Nat.reduceLT, reduceIte, Int.reduceToNat, w64_id, cast_succ])
  refine SW.loopE (fun E0 H0 q E' H' => ∃ (pre post : List (List Int)), a = pre ++ post ∧ q = post.length ∧ E' = aput E0 13 (I pre.length) ∧ H' = H0 ∧ pre.length ≤ b.length ∧ cmpSS a b = cmpSS post (b.drop pre.length)) a.length ⟨[], a, rfl, rfl, rfl, rfl, by simp, by simp⟩ ?_
  rintro q E' H' ⟨pre, post, hpp, rfl, rfl, rfl, hpb, hc⟩
  simp (config := { maxSteps := 1000000 }) (disch := (first | omega | (simp only [go_sem]; try omega))) only [go_sem, Nat.reduceAdd, Nat.reduceEqDiff, Nat.reduceLeDiff, Nat.reduceMul, Nat.reduceLT, reduceIte, Int.reduceToNat, w64_id, cast_succ]
  repeat (first | (with_reducible first | refine SW.seq ?_ | refine SW.block ?_ | refine SW.rowC ?_ | refine SW.skip ?_ | refine SW.exit ?_ | intro _ | refine And.intro (by omega) ?_) | simp (config := { maxSteps := 1000000 }) (disch := (first | omega | (simp only [go_sem]; try omega))) only [go_sem, Nat.reduceAdd, Nat.reduceEqDiff, Nat.reduceLeDiff, Nat.reduceMul, Nat.reduceLT, reduceIte, Int.reduceToNat, w64_id, cast_succ])
  (first | refine SW.condD rfl (fun h => ?_) (fun h => ?_) | refine SW.condN rfl (fun h => ?_) (fun h => ?_) | refine SW.condNB rfl (fun h => ?_) (fun h => ?_) | refine SW.condB rfl (fun h => ?_) (fun h => ?_))
  · obtain ⟨x, post, rfl, hg, -⟩ := consOf (d := []) hpp (by omega)
    repeat (first | (with_reducible first | refine SW.seq ?_ | refine SW.block ?_ | refine SW.rowC ?_ | refine SW.skip ?_ | refine SW.exit ?_ | intro _ | refine And.intro (by omega) ?_) | simp (config := { maxSteps := 1000000 }) (disch := (first | omega | (simp only [go_sem]; try omega))) only [go_sem, Nat.reduceAdd, Nat.reduceEqDiff, Nat.reduceLeDiff, Nat.reduceMul, Nat.reduceLT, reduceIte, Int.reduceToNat, w64_id, cast_succ, hg])
    (first | refine SW.condD rfl (fun h2 => ?_) (fun h2 => ?_) | refine SW.condN rfl (fun h2 => ?_) (fun h2 => ?_) | refine SW.condNB rfl (fun h2 => ?_) (fun h2 => ?_) | refine SW.condB rfl (fun h2 => ?_) (fun h2 => ?_))
    · rw [List.drop_eq_nil_of_le (by omega)] at hc
      repeat (first | (with_reducible first | refine SW.seq ?_ | refine SW.block ?_ | refine SW.rowC ?_ | refine SW.skip ?_ | refine SW.exit ?_ | intro _ | refine And.intro (by omega) ?_) | simp (config := { maxSteps := 1000000 }) (disch := (first | omega | (simp only [go_sem]; try omega))) only [go_sem, Nat.reduceAdd, Nat.reduceEqDiff, Nat.reduceLeDiff, Nat.reduceMul, Nat.reduceLT, reduceIte, Int.reduceToNat, w64_id, cast_succ])
      refine SW.ret ?_; (try simp only [go_sem]); (first | refine FunPost.one ?_ | refine FunPost.two ?_ | refine FunPost.three ?_); (try simp (config := { maxSteps := 1000000 }) (disch := (first | omega | (simp only [go_sem]; try omega))) only [go_sem, Nat.reduceAdd, Nat.reduceEqDiff, Nat.reduceLeDiff, Nat.reduceMul, Nat.reduceLT, reduceIte, Int.reduceToNat, w64_id, cast_succ]); (first | (with_reducible refine GR.drop ?_ ?_; (simp only [go_sem, and_self, and_true, true_and, implies_true, List.take_succ_cons, List.take_zero])) | refine GR.of ?_); refine ⟨?_, rfl⟩; (try with_reducible rfl)
      rw [hc]; rfl
    · rw [cmpSS_step _ _ _ _ (by omega)] at hc
      repeat (first | (with_reducible first | refine SW.seq ?_ | refine SW.block ?_ | refine SW.rowC ?_ | refine SW.skip ?_ | refine SW.exit ?_ | refine PFn.use (slicesCompare_fn _ _) ?_ | refine PFn.useq (slicesCompare_fn _ _) ?_ | intro _ | refine And.intro (by omega) ?_) | simp (config := { maxSteps := 1000000 }) (disch := (first | omega | (simp only [go_sem]; try omega))) only [go_sem, Nat.reduceAdd, Nat.reduceEqDiff, Nat.reduceLeDiff, Nat.reduceMul, Nat.reduceLT, reduceIte, Int.reduceToNat, w64_id, cast_succ, hg, hcb])
      by_cases h0 : cmpL x (b.getD pre.length []) = 0
      · rw [if_pos h0] at hc
        have hd : decide (cmpL x (b.getD pre.length []) = 0) = true := decide_eq_true h0
        repeat (first | (with_reducible first | refine SW.seq ?_ | refine SW.block ?_ | refine SW.rowC ?_ | refine SW.skip ?_ | refine SW.exit ?_ | intro _ | refine And.intro (by omega) ?_) | simp (config := { maxSteps := 1000000 }) (disch := (first | omega | (simp only [go_sem]; try omega))) only [go_sem, Nat.reduceAdd, Nat.reduceEqDiff, Nat.reduceLeDiff, Nat.reduceMul, Nat.reduceLT, reduceIte, Int.reduceToNat, w64_id, cast_succ, hd])
        refine SW.condF rfl ?_
        repeat (first | (with_reducible first | refine SW.seq ?_ | refine SW.block ?_ | refine SW.rowC ?_ | refine SW.skip ?_ | refine SW.exit ?_ | intro _ | refine And.intro (by omega) ?_) | simp (config := { maxSteps := 1000000 }) (disch := (first | omega | (simp only [go_sem]; try omega))) only [go_sem, Nat.reduceAdd, Nat.reduceEqDiff, Nat.reduceLeDiff, Nat.reduceMul, Nat.reduceLT, reduceIte, Int.reduceToNat, w64_id, cast_succ])
        refine SLoop.next post.length (by simp) ⟨pre ++ [x], post, by simp [hpp], rfl, by simp [go_sem], rfl, by simp; omega, by rw [hc]; simp⟩
      · rw [if_neg h0] at hc
        have hd : decide (cmpL x (b.getD pre.length []) = 0) = false := decide_eq_false h0
        repeat (first | (with_reducible first | refine SW.seq ?_ | refine SW.block ?_ | refine SW.rowC ?_ | refine SW.skip ?_ | refine SW.exit ?_ | intro _ | refine And.intro (by omega) ?_) | simp (config := { maxSteps := 1000000 }) (disch := (first | omega | (simp only [go_sem]; try omega))) only [go_sem, Nat.reduceAdd, Nat.reduceEqDiff, Nat.reduceLeDiff, Nat.reduceMul, Nat.reduceLT, reduceIte, Int.reduceToNat, w64_id, cast_succ, hd])
        refine SW.condT rfl ?_
        repeat (first | (with_reducible first | refine SW.seq ?_ | refine SW.block ?_ | refine SW.rowC ?_ | refine SW.skip ?_ | refine SW.exit ?_ | intro _ | refine And.intro (by omega) ?_) | simp (config := { maxSteps := 1000000 }) (disch := (first | omega | (simp only [go_sem]; try omega))) only [go_sem, Nat.reduceAdd, Nat.reduceEqDiff, Nat.reduceLeDiff, Nat.reduceMul, Nat.reduceLT, reduceIte, Int.reduceToNat, w64_id, cast_succ])
        refine SW.ret ?_; (try simp only [go_sem]); (first | refine FunPost.one ?_ | refine FunPost.two ?_ | refine FunPost.three ?_); (try simp (config := { maxSteps := 1000000 }) (disch := (first | omega | (simp only [go_sem]; try omega))) only [go_sem, Nat.reduceAdd, Nat.reduceEqDiff, Nat.reduceLeDiff, Nat.reduceMul, Nat.reduceLT, reduceIte, Int.reduceToNat, w64_id, cast_succ]); (first | (with_reducible refine GR.drop ?_ ?_; (simp only [go_sem, and_self, and_true, true_and, implies_true, List.take_succ_cons, List.take_zero])) | refine GR.of ?_); refine ⟨?_, rfl⟩; (try with_reducible rfl)
        rw [hc]
  · obtain ⟨rfl, rfl⟩ := nilOf hpp (by omega)
    repeat (first | (with_reducible first | refine SW.seq ?_ | refine SW.block ?_ | refine SW.rowC ?_ | refine SW.skip ?_ | refine SW.exit ?_ | intro _ | refine And.intro (by omega) ?_) | simp (config := { maxSteps := 1000000 }) (disch := (first | omega | (simp only [go_sem]; try omega))) only [go_sem, Nat.reduceAdd, Nat.reduceEqDiff, Nat.reduceLeDiff, Nat.reduceMul, Nat.reduceLT, reduceIte, Int.reduceToNat, w64_id, cast_succ])
    (first | refine SW.condD rfl (fun h2 => ?_) (fun h2 => ?_) | refine SW.condN rfl (fun h2 => ?_) (fun h2 => ?_) | refine SW.condNB rfl (fun h2 => ?_) (fun h2 => ?_) | refine SW.condB rfl (fun h2 => ?_) (fun h2 => ?_))
    · repeat (first | (with_reducible first | refine SW.seq ?_ | refine SW.block ?_ | refine SW.rowC ?_ | refine SW.skip ?_ | refine SW.exit ?_ | intro _ | refine And.intro (by omega) ?_) | simp (config := { maxSteps := 1000000 }) (disch := (first | omega | (simp only [go_sem]; try omega))) only [go_sem, Nat.reduceAdd, Nat.reduceEqDiff, Nat.reduceLeDiff, Nat.reduceMul, Nat.reduceLT, reduceIte, Int.reduceToNat, w64_id, cast_succ])
      refine SW.ret ?_; (try simp only [go_sem]); (first | refine FunPost.one ?_ | refine FunPost.two ?_ | refine FunPost.three ?_); (try simp (config := { maxSteps := 1000000 }) (disch := (first | omega | (simp only [go_sem]; try omega))) only [go_sem, Nat.reduceAdd, Nat.reduceEqDiff, Nat.reduceLeDiff, Nat.reduceMul, Nat.reduceLT, reduceIte, Int.reduceToNat, w64_id, cast_succ]); (first | (with_reducible refine GR.drop ?_ ?_; (simp only [go_sem, and_self, and_true, true_and, implies_true, List.take_succ_cons, List.take_zero])) | refine GR.of ?_); refine ⟨?_, rfl⟩; (try with_reducible rfl)
      rw [hc, List.drop_eq_getElem_cons (show pre.length < b.length by omega)]; rfl
    · repeat (first | (with_reducible first | refine SW.seq ?_ | refine SW.block ?_ | refine SW.rowC ?_ | refine SW.skip ?_ | refine SW.exit ?_ | intro _ | refine And.intro (by omega) ?_) | simp (config := { maxSteps := 1000000 }) (disch := (first | omega | (simp only [go_sem]; try omega))) only [go_sem, Nat.reduceAdd, Nat.reduceEqDiff, Nat.reduceLeDiff, Nat.reduceMul, Nat.reduceLT, reduceIte, Int.reduceToNat, w64_id, cast_succ])
      refine SW.ret ?_; (try simp only [go_sem]); (first | refine FunPost.one ?_ | refine FunPost.two ?_ | refine FunPost.three ?_); (try simp (config := { maxSteps := 1000000 }) (disch := (first | omega | (simp only [go_sem]; try omega))) only [go_sem, Nat.reduceAdd, Nat.reduceEqDiff, Nat.reduceLeDiff, Nat.reduceMul, Nat.reduceLT, reduceIte, Int.reduceToNat, w64_id, cast_succ]); (first | (with_reducible refine GR.drop ?_ ?_; (simp only [go_sem, and_self, and_true, true_and, implies_true, List.take_succ_cons, List.take_zero])) | refine GR.of ?_); refine ⟨?_, rfl⟩; (try with_reducible rfl)
      rw [hc, List.drop_eq_nil_of_le (by omega)]; rfl
theorem compareSystems_fn (a b : List (List Int)) : PFn Tryz.prog f_impl_compareSystems [ilSS a, ilSS b] (I (cmpSS a b)) := by
  intro H; refine ACalls.introB s_impl_compareSystems (by simp) ?_; intro hB hA; unfold c_impl_compareSystems; simp (config := { maxSteps := 1000000 }) (disch := (first | omega | (simp only [go_sem]; try omega))) only [go_sem, Nat.reduceAdd, Nat.reduceEqDiff, Nat.reduceLeDiff, Nat.reduceMul, Nat.reduceLT, reduceIte, Int.reduceToNat, w64_id, cast_succ]
  repeat (first | (with_reducible first | refine SW.seq ?_ | refine SW.block ?_ | refine SW.rowC ?_ | refine SW.skip ?_ | refine SW.exit ?_ | refine PFn.use (CompareFunc_fn a b) ?_ | refine PFn.useq (CompareFunc_fn a b) ?_ | intro _ | refine And.intro (by omega) ?_) | simp (config := { maxSteps := 1000000 }) (disch := (first | omega | (simp only [go_sem]; try omega))) only [go_sem, Nat.reduceAdd, Nat.reduceEqDiff, Nat.reduceLeDiff, Nat.reduceMul, Nat.reduceLT, reduceIte, Int.reduceToNat, w64_id, cast_succ])
  refine SW.ret ?_; (try simp only [go_sem]); (first | refine FunPost.one ?_ | refine FunPost.two ?_ | refine FunPost.three ?_); (try simp (config := { maxSteps := 1000000 }) (disch := (first | omega | (simp only [go_sem]; try omega))) only [go_sem, Nat.reduceAdd, Nat.reduceEqDiff, Nat.reduceLeDiff, Nat.reduceMul, Nat.reduceLT, reduceIte, Int.reduceToNat, w64_id, cast_succ]); (first | (with_reducible refine GR.drop ?_ ?_; (simp only [go_sem, and_self, and_true, true_and, implies_true, List.take_succ_cons, List.take_zero])) | refine GR.of ?_); refine ⟨?_, rfl⟩; (try with_reducible rfl)
theorem l27Compare_fn (a b : List (List Int)) (hl : a.length = b.length) : PFn Tryz.prog f_spec_l27Compare [ilSS a, ilSS b] (I (cmpSS a b)) := by
  intro H; refine ACalls.introB s_spec_l27Compare (by simp) ?_; intro hB hA; unfold c_spec_l27Compare; simp (config := { maxSteps := 1000000 }) (disch := (first | omega | (simp only [go_sem]; try omega))) only [go_sem, Nat.reduceAdd, Nat.reduceEqDiff, Nat.reduceLeDiff, Nat.reduceMul, Nat.reduceLT, reduceIte, Int.reduceToNat, w64_id, cast_succ]
  repeat (first | (with_reducible first | refine SW.seq ?_ | refine SW.block ?_ | refine SW.rowC ?_ | refine SW.skip ?_ | refine SW.exit ?_ | intro _ | refine And.intro (by omega) ?_) | simp (config := { maxSteps := 1000000 }) (disch := (first | omega | (simp only [go_sem]; try omega))) only [go_sem, Nat.reduceAdd, Nat.reduceEqDiff, Nat.reduceLeDiff, Nat.reduceMul, Nat.reduceLT, reduceIte, Int.reduceToNat, w64_id, cast_succ])
  refine SW.loopE (fun E0 H0 q E' H' => ∃ (pre post : List (List Int)), a = pre ++ post ∧ q = post.length ∧ E' = aput E0 5 (I pre.length) ∧ H' = H0 ∧ cmpSS a b = cmpSS post (b.drop pre.length)) a.length ⟨[], a, rfl, rfl, rfl, rfl, by simp⟩ ?_
  rintro q E' H' ⟨pre, post, hpp, rfl, rfl, rfl, hc⟩
  simp (config := { maxSteps := 1000000 }) (disch := (first | omega | (simp only [go_sem]; try omega))) only [go_sem, Nat.reduceAdd, Nat.reduceEqDiff, Nat.reduceLeDiff, Nat.reduceMul, Nat.reduceLT, reduceIte, Int.reduceToNat, w64_id, cast_succ]
  repeat (first | (with_reducible first | refine SW.seq ?_ | refine SW.block ?_ | refine SW.rowC ?_ | refine SW.skip ?_ | refine SW.exit ?_ | intro _ | refine And.intro (by omega) ?_) | simp (config := { maxSteps := 1000000 }) (disch := (first | omega | (simp only [go_sem]; try omega))) only [go_sem, Nat.reduceAdd, Nat.reduceEqDiff, Nat.reduceLeDiff, Nat.reduceMul, Nat.reduceLT, reduceIte, Int.reduceToNat, w64_id, cast_succ])
  by_cases h1 : pre.length < a.length
  · obtain ⟨x, post, rfl, hg, -⟩ := consOf (d := []) hpp h1
    rw [cmpSS_step _ _ _ _ (by omega)] at hc
    have d1 : decide ((pre.length : Int) < (a.length : Int)) = true := decide_eq_true (by omega)
    have d2 : decide ((pre.length : Int) < (b.length : Int)) = true := decide_eq_true (by omega)
    repeat (first | (with_reducible first | refine SW.seq ?_ | refine SW.block ?_ | refine SW.rowC ?_ | refine SW.skip ?_ | refine SW.exit ?_ | intro _ | refine And.intro (by omega) ?_) | simp (config := { maxSteps := 1000000 }) (disch := (first | omega | (simp only [go_sem]; try omega))) only [go_sem, Nat.reduceAdd, Nat.reduceEqDiff, Nat.reduceLeDiff, Nat.reduceMul, Nat.reduceLT, reduceIte, Int.reduceToNat, w64_id, cast_succ, d1, d2])
    refine SW.condT rfl ?_
    repeat (first | (with_reducible first | refine SW.seq ?_ | refine SW.block ?_ | refine SW.rowC ?_ | refine SW.skip ?_ | refine SW.exit ?_ | refine PFn.use (CompareLists_fn _ _) ?_ | refine PFn.useq (CompareLists_fn _ _) ?_ | intro _ | refine And.intro (by omega) ?_) | simp (config := { maxSteps := 1000000 }) (disch := (first | omega | (simp only [go_sem]; try omega))) only [go_sem, Nat.reduceAdd, Nat.reduceEqDiff, Nat.reduceLeDiff, Nat.reduceMul, Nat.reduceLT, reduceIte, Int.reduceToNat, w64_id, cast_succ, hg])
    by_cases h0 : cmpL x (b.getD pre.length []) = 0
    · rw [if_pos h0] at hc
      have hd : decide (cmpL x (b.getD pre.length []) = 0) = true := decide_eq_true h0
      repeat (first | (with_reducible first | refine SW.seq ?_ | refine SW.block ?_ | refine SW.rowC ?_ | refine SW.skip ?_ | refine SW.exit ?_ | intro _ | refine And.intro (by omega) ?_) | simp (config := { maxSteps := 1000000 }) (disch := (first | omega | (simp only [go_sem]; try omega))) only [go_sem, Nat.reduceAdd, Nat.reduceEqDiff, Nat.reduceLeDiff, Nat.reduceMul, Nat.reduceLT, reduceIte, Int.reduceToNat, w64_id, cast_succ, hd])
      refine SW.condF rfl ?_
      repeat (first | (with_reducible first | refine SW.seq ?_ | refine SW.block ?_ | refine SW.rowC ?_ | refine SW.skip ?_ | refine SW.exit ?_ | intro _ | refine And.intro (by omega) ?_) | simp (config := { maxSteps := 1000000 }) (disch := (first | omega | (simp only [go_sem]; try omega))) only [go_sem, Nat.reduceAdd, Nat.reduceEqDiff, Nat.reduceLeDiff, Nat.reduceMul, Nat.reduceLT, reduceIte, Int.reduceToNat, w64_id, cast_succ])
      refine SLoop.next post.length (by simp) ⟨pre ++ [x], post, by simp [hpp], rfl, by simp [go_sem], rfl, by rw [hc]; simp⟩
    · rw [if_neg h0] at hc
      have hd : decide (cmpL x (b.getD pre.length []) = 0) = false := decide_eq_false h0
      repeat (first | (with_reducible first | refine SW.seq ?_ | refine SW.block ?_ | refine SW.rowC ?_ | refine SW.skip ?_ | refine SW.exit ?_ | intro _ | refine And.intro (by omega) ?_) | simp (config := { maxSteps := 1000000 }) (disch := (first | omega | (simp only [go_sem]; try omega))) only [go_sem, Nat.reduceAdd, Nat.reduceEqDiff, Nat.reduceLeDiff, Nat.reduceMul, Nat.reduceLT, reduceIte, Int.reduceToNat, w64_id, cast_succ, hd])
      refine SW.condT rfl ?_
      repeat (first | (with_reducible first | refine SW.seq ?_ | refine SW.block ?_ | refine SW.rowC ?_ | refine SW.skip ?_ | refine SW.exit ?_ | intro _ | refine And.intro (by omega) ?_) | simp (config := { maxSteps := 1000000 }) (disch := (first | omega | (simp only [go_sem]; try omega))) only [go_sem, Nat.reduceAdd, Nat.reduceEqDiff, Nat.reduceLeDiff, Nat.reduceMul, Nat.reduceLT, reduceIte, Int.reduceToNat, w64_id, cast_succ])
      refine SW.ret ?_; (try simp only [go_sem]); (first | refine FunPost.one ?_ | refine FunPost.two ?_ | refine FunPost.three ?_); (try simp (config := { maxSteps := 1000000 }) (disch := (first | omega | (simp only [go_sem]; try omega))) only [go_sem, Nat.reduceAdd, Nat.reduceEqDiff, Nat.reduceLeDiff, Nat.reduceMul, Nat.reduceLT, reduceIte, Int.reduceToNat, w64_id, cast_succ]); (first | (with_reducible refine GR.drop ?_ ?_; (simp only [go_sem, and_self, and_true, true_and, implies_true, List.take_succ_cons, List.take_zero])) | refine GR.of ?_); refine ⟨?_, rfl⟩; (try with_reducible rfl)
      rw [hc]
  · obtain ⟨rfl, rfl⟩ := nilOf hpp h1
    have d1 : decide ((pre.length : Int) < (pre.length : Int)) = false := decide_eq_false (by omega)
    repeat (first | (with_reducible first | refine SW.seq ?_ | refine SW.block ?_ | refine SW.rowC ?_ | refine SW.skip ?_ | refine SW.exit ?_ | intro _ | refine And.intro (by omega) ?_) | simp (config := { maxSteps := 1000000 }) (disch := (first | omega | (simp only [go_sem]; try omega))) only [go_sem, Nat.reduceAdd, Nat.reduceEqDiff, Nat.reduceLeDiff, Nat.reduceMul, Nat.reduceLT, reduceIte, Int.reduceToNat, w64_id, cast_succ, d1])
    refine SW.condF rfl ?_
    repeat (first | (with_reducible first | refine SW.seq ?_ | refine SW.block ?_ | refine SW.rowC ?_ | refine SW.skip ?_ | refine SW.exit ?_ | intro _ | refine And.intro (by omega) ?_) | simp (config := { maxSteps := 1000000 }) (disch := (first | omega | (simp only [go_sem]; try omega))) only [go_sem, Nat.reduceAdd, Nat.reduceEqDiff, Nat.reduceLeDiff, Nat.reduceMul, Nat.reduceLT, reduceIte, Int.reduceToNat, w64_id, cast_succ])
    refine SW.ret ?_; (try simp only [go_sem]); (first | refine FunPost.one ?_ | refine FunPost.two ?_ | refine FunPost.three ?_); (try simp (config := { maxSteps := 1000000 }) (disch := (first | omega | (simp only [go_sem]; try omega))) only [go_sem, Nat.reduceAdd, Nat.reduceEqDiff, Nat.reduceLeDiff, Nat.reduceMul, Nat.reduceLT, reduceIte, Int.reduceToNat, w64_id, cast_succ]); (first | (with_reducible refine GR.drop ?_ ?_; (simp only [go_sem, and_self, and_true, true_and, implies_true, List.take_succ_cons, List.take_zero])) | refine GR.of ?_); refine ⟨?_, rfl⟩; (try with_reducible rfl)
    rw [hc, List.drop_eq_nil_of_le (by omega)]; rfl
def perms (n : Nat) : List (List Int) := (List.range (fct n)).map (perm n)
theorem allPermutations_fn (n : Nat) (hn : n ≤ 6) : PFn Tryz.prog f_impl_allPermutations [I n] (ilSS (perms n)) := by
  intro H; refine ACalls.introB s_impl_allPermutations (by simp) ?_; intro hB hA; unfold c_impl_allPermutations; simp (config := { maxSteps := 1000000 }) (disch := (first | omega | (simp only [go_sem]; try omega))) only [go_sem, Nat.reduceAdd, Nat.reduceEqDiff, Nat.reduceLeDiff, Nat.reduceMul, Nat.reduceLT, reduceIte, Int.reduceToNat, w64_id, cast_succ]
  have hf := fct_le hn
  repeat (first | (with_reducible first | refine SW.seq ?_ | refine SW.block ?_ | refine SW.rowC ?_ | refine SW.skip ?_ | refine SW.exit ?_ | refine PFn.use (implFact_fn n hn) ?_ | refine PFn.useq (implFact_fn n hn) ?_ | intro _ | refine And.intro (by omega) ?_) | simp (config := { maxSteps := 1000000 }) (disch := (first | omega | (simp only [go_sem]; try omega))) only [go_sem, Nat.reduceAdd, Nat.reduceEqDiff, Nat.reduceLeDiff, Nat.reduceMul, Nat.reduceLT, reduceIte, Int.reduceToNat, w64_id, cast_succ])
  refine SW.ghost (Gh.name 3 22 1 rfl) ?_
  simp (config := { maxSteps := 1000000 }) (disch := (first | omega | (simp only [go_sem]; try omega))) only [go_sem, Nat.reduceAdd, Nat.reduceEqDiff, Nat.reduceLeDiff, Nat.reduceMul, Nat.reduceLT, reduceIte, Int.reduceToNat, w64_id, cast_succ]
  unfold perms
  generalize hN : fct n = N at *
  refine SW.loopE (fun E0 H0 q E' H' => ∃ (m ver : Nat), m ≤ N ∧ q = N - m ∧ E' = aput (aput E0 9 (I m)) 3 (.nm H.length ver 0 ((List.range m).map (perm n)).length) ∧ H' = H ++ [⟨ver, tyLL, 1, ((List.range m).map (perm n)).map ilS⟩]) N ⟨0, 0, by omega, by omega, rfl, rfl⟩ ?_
  rintro q E' H' ⟨m, ver, hm, rfl, rfl, rfl⟩
  have hms : (List.range (m + 1)).map (perm n) = (List.range m).map (perm n) ++ [perm n m] := by simp [List.range_succ]
  have hml : ((List.range m).map (perm n)).length = m := by simp
  generalize hM : (List.range m).map (perm n) = M at *
  have htl : (M.map ilS).take m = M.map ilS := List.take_of_length_le (by simp [hml])
  simp (config := { maxSteps := 1000000 }) (disch := (first | omega | (simp only [go_sem]; try omega))) only [go_sem, Nat.reduceAdd, Nat.reduceEqDiff, Nat.reduceLeDiff, Nat.reduceMul, Nat.reduceLT, reduceIte, Int.reduceToNat, w64_id, cast_succ]
  repeat (first | (with_reducible first | refine SW.seq ?_ | refine SW.block ?_ | refine SW.rowC ?_ | refine SW.skip ?_ | refine SW.exit ?_ | intro _ | refine And.intro (by omega) ?_) | simp (config := { maxSteps := 1000000 }) (disch := (first | omega | (simp only [go_sem]; try omega))) only [go_sem, Nat.reduceAdd, Nat.reduceEqDiff, Nat.reduceLeDiff, Nat.reduceMul, Nat.reduceLT, reduceIte, Int.reduceToNat, w64_id, cast_succ])
  (first | refine SW.condD rfl (fun h => ?_) (fun h => ?_) | refine SW.condN rfl (fun h => ?_) (fun h => ?_) | refine SW.condNB rfl (fun h => ?_) (fun h => ?_) | refine SW.condB rfl (fun h => ?_) (fun h => ?_))
  · repeat (first | (with_reducible first | refine SW.seq ?_ | refine SW.block ?_ | refine SW.rowC ?_ | refine SW.skip ?_ | refine SW.exit ?_ | refine PFn.use (UnrankB_fn n m hn (by omega)) ?_ | refine PFn.useq (UnrankB_fn n m hn (by omega)) ?_ | intro _ | refine And.intro (by omega) ?_) | simp (config := { maxSteps := 1000000 }) (disch := (first | omega | (simp only [go_sem]; try omega))) only [go_sem, Nat.reduceAdd, Nat.reduceEqDiff, Nat.reduceLeDiff, Nat.reduceMul, Nat.reduceLT, reduceIte, Int.reduceToNat, w64_id, cast_succ, htl, hml])
    refine SLoop.nextT 1 (N - (m + 1)) hB (by omega) (by omega) (by simp) ?_ ?_ ⟨m + 1, ver + 1, by omega, rfl, ?_, ?_⟩
    · (simp only [go_sem, Nat.reduceAdd, Nat.reduceEqDiff, reduceIte, go_sem, and_self, and_true, true_and, implies_true, List.take_succ_cons, List.take_zero, and_true, true_and]; try omega)
    · (simp only [go_sem, Nat.reduceAdd, Nat.reduceEqDiff, reduceIte, go_sem, and_self, and_true, true_and, implies_true, List.take_succ_cons, List.take_zero, and_true, true_and]; try omega)
    · simp [go_sem]
    · rw [hms]; simp
  · have : m = N := by omega
    subst this
    rw [hM]
    repeat (first | (with_reducible first | refine SW.seq ?_ | refine SW.block ?_ | refine SW.rowC ?_ | refine SW.skip ?_ | refine SW.exit ?_ | intro _ | refine And.intro (by omega) ?_) | simp (config := { maxSteps := 1000000 }) (disch := (first | omega | (simp only [go_sem]; try omega))) only [go_sem, Nat.reduceAdd, Nat.reduceEqDiff, Nat.reduceLeDiff, Nat.reduceMul, Nat.reduceLT, reduceIte, Int.reduceToNat, w64_id, cast_succ])
    refine SW.ret ?_; (try simp only [go_sem]); (first | refine FunPost.one ?_ | refine FunPost.two ?_ | refine FunPost.three ?_); (try simp (config := { maxSteps := 1000000 }) (disch := (first | omega | (simp only [go_sem]; try omega))) only [go_sem, Nat.reduceAdd, Nat.reduceEqDiff, Nat.reduceLeDiff, Nat.reduceMul, Nat.reduceLT, reduceIte, Int.reduceToNat, w64_id, cast_succ])
    exact GR.froz (froz_rowS (r := H.length) (ver := ver) (ty := tyLL) (Nat.le_refl _) (by simp)) ⟨rfl, rfl⟩
end Go.Proofs.YtmdeibdplpodpaaGreat
namespace Go.Proofs.YtmdeibdplpodpaaGreat
open Go.Shelf Go.RowKit Go.Lib Go.Sort Go.Av
theorem cmpSS_eq0 : ∀ a b : List (List Int), cmpSS a b = 0 ↔ a = b
  | [], [] => by simp [cmpSS]
  | [], _ :: _ => by simp [cmpSS]
  | _ :: _, [] => by simp [cmpSS]
  | x :: a, y :: b => by
    unfold cmpSS
    split
    · rename_i h
      rw [cmpSS_eq0 a b, (cmpL_eq0 x y).1 h]; simp
    · rename_i h
      refine ⟨fun h2 => absurd h2 h, fun h2 => ?_⟩
      simp only [List.cons.injEq] at h2
      exact absurd ((cmpL_eq0 x y).2 h2.1) h
theorem cmpSS_neg : ∀ a b : List (List Int), cmpSS b a = - cmpSS a b
  | [], [] => by simp [cmpSS]
  | [], _ :: _ => by simp [cmpSS]
  | _ :: _, [] => by simp [cmpSS]
  | x :: a, y :: b => by
    have hn := cmpL_tot.neg x y
    unfold cmpSS
    by_cases h : cmpL x y = 0
    · rw [if_pos h, if_pos (by omega)]
      exact cmpSS_neg a b
    · rw [if_neg h, if_neg (by omega)]
      omega
theorem cmpSS_trans : ∀ a b c : List (List Int), cmpSS a b < 0 → cmpSS b c < 0 → cmpSS a c < 0
  | [], [], _ => by simp [cmpSS]
  | [], _ :: _, [] => by simp [cmpSS]
  | [], _ :: _, _ :: _ => by simp [cmpSS]
  | _ :: _, [], _ => by simp [cmpSS]
  | _ :: _, _ :: _, [] => by simp [cmpSS]
  | x :: a, y :: b, z :: c => by
    unfold cmpSS
    intro h1 h2
    by_cases e1 : cmpL x y = 0
    · have := (cmpL_eq0 x y).1 e1; subst this
      rw [if_pos e1] at h1
      by_cases e2 : cmpL x z = 0
      · rw [if_pos e2] at h2 ⊢
        exact cmpSS_trans a b c h1 h2
      · rw [if_neg e2] at h2 ⊢
        exact h2
    · rw [if_neg e1] at h1
      by_cases e2 : cmpL y z = 0
      · have := (cmpL_eq0 y z).1 e2; subst this
        rw [if_neg e1]; exact h1
      · rw [if_neg e2] at h2
        have h3 := cmpL_trans _ _ _ h1 h2
        rw [if_neg (by omega)]; exact h3
theorem cmpSS_tot : TotC cmpSS := ⟨cmpSS_neg, cmpSS_eq0, cmpSS_trans⟩
end Go.Proofs.YtmdeibdplpodpaaGreat
