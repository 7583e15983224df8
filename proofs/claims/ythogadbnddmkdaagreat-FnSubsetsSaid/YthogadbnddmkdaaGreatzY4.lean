/- Which sizes of sets may be asked for. -/
import Derived.Test.YthogadbnddmkdaaGreatProg
import Derived.KernelRfl
import Derived.Test.YthogadbnddmkdaaGreatzY2
import Derived.Test.YthogadbnddmkdaaGreatzY0
set_option linter.unusedSimpArgs false
set_option linter.unusedVariables false
set_option maxHeartbeats 4000000
set_option maxRecDepth 100000
namespace Go.Proofs.YthogadbnddmkdaaGreat
open Go.Av
abbrev f_impl_countable : Nat := 60
def c_impl_countable : SC :=
 .seq (.reg [
     ⟨(some 2), .box 44 (.tmp 0), none⟩,
     ⟨(some 4), .mv (.const (.int .i64 0)), none⟩] [1, 2])
 (.seq (.seq (.reg [
     ⟨(some 9), .load 2 true (.tmp 2), none⟩,
     ⟨(some 10), .call 62 [(.tmp 9)], none⟩,
     ⟨(some 11), .un .not (.tmp 10), none⟩] [1, 2, 11])
 (.cond (.tmp 11)
  (.seq (.reg [
      ⟨(some 4), .mv (.const (.int .i64 1)), none⟩] [4])
  (.ret))
  (.skip)))
 (.seq (.seq (.reg [
     ⟨(some 12), .mv (.tmp 1), none⟩,
     ⟨(some 13), .len (.tmp 12), none⟩,
     ⟨(some 14), .mv (.const (.int .i64 0)), none⟩] [1, 2, 12, 13, 14])
 (.block 0 (.loop [1, 2, 12, 13, 14]
   (.seq (.reg [
       ⟨(some 15), .bin .lss (.tmp 14) (.tmp 13), none⟩] [1, 2, 12, 13, 14, 15])
   (.seq (.cond (.tmp 15)
    (.skip)
    (.exit 0))
   (.seq (.block 1 (.seq (.reg [
        ⟨(some 16), .iaddr 1 (.tmp 12) (.tmp 14), none⟩,
        ⟨(some 17), .load 1 false (.tmp 16), none⟩,
        ⟨(some 6), .mv (.tmp 17), none⟩] [1, 2, 6, 12, 13, 14])
    (.seq (.reg [
        ⟨(some 18), .mv (.tmp 6), none⟩,
        ⟨(some 19), .faddr 0 (.tmp 2), none⟩,
        ⟨(some 20), .load 1 false (.tmp 19), none⟩,
        ⟨(some 21), .call 52 [(.tmp 18), (.const (.int .i64 0)), (.tmp 20)], none⟩,
        ⟨(some 22), .un .not (.tmp 21), none⟩] [1, 2, 12, 13, 14, 22])
    (.cond (.tmp 22)
     (.seq (.reg [
         ⟨(some 4), .mv (.const (.int .i64 2)), none⟩] [4])
     (.ret))
     (.skip)))))
   (.reg [
       ⟨(some 23), .bin .add (.tmp 14) (.const (.int .i64 1)), none⟩,
       ⟨(some 14), .mv (.tmp 23), none⟩] [1, 2, 12, 13, 14])))))))
 (.seq (.seq (.reg [
     ⟨(some 24), .mv (.tmp 1), none⟩,
     ⟨(some 25), .len (.tmp 24), none⟩,
     ⟨(some 26), .mv (.const (.int .i64 0)), none⟩] [2, 24, 25, 26])
 (.block 2 (.loop [2, 24, 25, 26]
   (.seq (.reg [
       ⟨(some 27), .bin .lss (.tmp 26) (.tmp 25), none⟩] [2, 24, 25, 26, 27])
   (.seq (.cond (.tmp 27)
    (.skip)
    (.exit 2))
   (.seq (.block 3 (.seq (.reg [
        ⟨(some 28), .iaddr 1 (.tmp 24) (.tmp 26), none⟩,
        ⟨(some 29), .load 1 false (.tmp 28), none⟩,
        ⟨(some 8), .mv (.tmp 29), none⟩] [2, 8, 24, 25, 26])
    (.seq (.reg [
        ⟨(some 30), .faddr 0 (.tmp 2), none⟩,
        ⟨(some 31), .load 1 false (.tmp 30), none⟩,
        ⟨(some 32), .mv (.tmp 8), none⟩,
        ⟨(some 33), .call 24 [(.tmp 31), (.tmp 32)], none⟩,
        ⟨(some 34), .bin .gtr (.tmp 33) (.const (.int .i64 2000)), none⟩] [2, 24, 25, 26, 34])
    (.cond (.tmp 34)
     (.seq (.reg [
         ⟨(some 4), .mv (.const (.int .i64 5)), none⟩] [4])
     (.ret))
     (.skip)))))
   (.reg [
       ⟨(some 35), .bin .add (.tmp 26) (.const (.int .i64 1)), none⟩,
       ⟨(some 26), .mv (.tmp 35), none⟩] [2, 24, 25, 26])))))))
 (.seq (.reg [
     ⟨(some 4), .mv (.const (.int .i64 0)), none⟩] [4])
 (.ret)))))
theorem s_impl_countable : stripF Tryz.prog 60 [[1, 2], [1, 2, 11], [4], [1, 2, 12, 13, 14], [1, 2, 12, 13, 14], [1, 2, 12, 13, 14, 15], [1, 2, 6, 12, 13, 14], [1, 2, 12, 13, 14, 22], [4], [1, 2, 12, 13, 14], [2, 24, 25, 26], [2, 24, 25, 26], [2, 24, 25, 26, 27], [2, 8, 24, 25, 26], [2, 24, 25, 26, 34], [4], [2, 24, 25, 26], [4]] = some (c_impl_countable, [.tmp 4], 36) := by kernel_rfl
noncomputable def askV (n : Int) (els : List (List Int)) (k : Int) : Int := if grpB n els = true then (if 0 ≤ k ∧ k ≤ n then (if 2000 < chooseI n k then 5 else 0) else 2) else 1
noncomputable def askL (n : Int) (els : List (List Int)) (ks : List Int) : Int := if grpB n els = true then (if (ks.all fun k => decide (0 ≤ k) && decide (k ≤ n)) = true then (if (ks.any fun k => decide (2000 < chooseI n k)) = true then 5 else 0) else 2) else 1
theorem askL_one (n : Int) (els : List (List Int)) (k : Int) : askL n els [k] = askV n els k := by
  unfold askL askV
  by_cases h1 : 0 ≤ k <;> by_cases h2 : k ≤ n <;> simp [h1, h2]
theorem countable_fn (n : Int) (els : List (List Int)) (ks : List Int) (hl : ∀ x ∈ els, x.length ≤ 2000000) (hl2 : els.length ≤ 2000000) : PFn Tryz.prog f_impl_countable [.agg [I n, ilSS els], ilS ks] (I (askL n els ks)) := by
  have hv := ValidGroup_fn n els hl hl2
  unfold askL
  by_cases hg : grpB n els = true
  · rw [if_pos hg]
    rw [hg] at hv
    intro H; refine ACalls.introB s_impl_countable (by simp) ?_; intro hB hA; unfold c_impl_countable; simp (config := { maxSteps := 1000000 }) (disch := (first | omega | (simp only [go_sem]; try omega))) only [go_sem, Nat.reduceAdd, Nat.reduceEqDiff, Nat.reduceLeDiff, Nat.reduceMul, Nat.reduceLT, reduceIte, Int.reduceToNat, w64_id, cast_succ]
    repeat (first | (with_reducible first | refine SW.seq ?_ | refine SW.block ?_ | refine SW.rowC ?_ | refine SW.skip ?_ | refine SW.exit ?_ | refine PFn.use (hv) ?_ | refine PFn.useq (hv) ?_ | intro _ | refine And.intro (by omega) ?_) | simp (config := { maxSteps := 1000000 }) (disch := (first | omega | (simp only [go_sem]; try omega))) only [go_sem, Nat.reduceAdd, Nat.reduceEqDiff, Nat.reduceLeDiff, Nat.reduceMul, Nat.reduceLT, reduceIte, Int.reduceToNat, w64_id, cast_succ])
    refine SW.condF rfl ?_
    repeat (first | (with_reducible first | refine SW.seq ?_ | refine SW.block ?_ | refine SW.rowC ?_ | refine SW.skip ?_ | refine SW.exit ?_ | intro _ | refine And.intro (by omega) ?_) | simp (config := { maxSteps := 1000000 }) (disch := (first | omega | (simp only [go_sem]; try omega))) only [go_sem, Nat.reduceAdd, Nat.reduceEqDiff, Nat.reduceLeDiff, Nat.reduceMul, Nat.reduceLT, reduceIte, Int.reduceToNat, w64_id, cast_succ])
    refine SW.loopE (fun E0 H0 q E' H' => ∃ (pre post : List Int), ks = pre ++ post ∧ q = post.length ∧ E' = aput E0 14 (I pre.length) ∧ H' = H0 ∧ (pre.all fun k => decide (0 ≤ k) && decide (k ≤ n)) = true) ks.length ⟨[], ks, rfl, rfl, rfl, rfl, rfl⟩ ?_
    rintro q E' H' ⟨pre, post, hpp, rfl, rfl, rfl, hal⟩
    simp (config := { maxSteps := 1000000 }) (disch := (first | omega | (simp only [go_sem]; try omega))) only [go_sem, Nat.reduceAdd, Nat.reduceEqDiff, Nat.reduceLeDiff, Nat.reduceMul, Nat.reduceLT, reduceIte, Int.reduceToNat, w64_id, cast_succ]
    repeat (first | (with_reducible first | refine SW.seq ?_ | refine SW.block ?_ | refine SW.rowC ?_ | refine SW.skip ?_ | refine SW.exit ?_ | intro _ | refine And.intro (by omega) ?_) | simp (config := { maxSteps := 1000000 }) (disch := (first | omega | (simp only [go_sem]; try omega))) only [go_sem, Nat.reduceAdd, Nat.reduceEqDiff, Nat.reduceLeDiff, Nat.reduceMul, Nat.reduceLT, reduceIte, Int.reduceToNat, w64_id, cast_succ])
    (first | refine SW.condD rfl (fun h => ?_) (fun h => ?_) | refine SW.condN rfl (fun h => ?_) (fun h => ?_) | refine SW.condNB rfl (fun h => ?_) (fun h => ?_) | refine SW.condB rfl (fun h => ?_) (fun h => ?_))
    · obtain ⟨k, post, rfl, hgk, -⟩ := consOf (d := 0) hpp (by omega)
      have hwi := within_fn k 0 n
      cases hw : (decide (0 ≤ k) && decide (k ≤ n))
      · rw [hw] at hwi
        have hno : (ks.all fun k => decide (0 ≤ k) && decide (k ≤ n)) = false := by rw [List.all_eq_false]; exact ⟨k, by rw [hpp]; simp, by simp [hw]⟩
        rw [if_neg (by rw [hno]; simp)]
        repeat (first | (with_reducible first | refine SW.seq ?_ | refine SW.block ?_ | refine SW.rowC ?_ | refine SW.skip ?_ | refine SW.exit ?_ | refine PFn.use (hwi) ?_ | refine PFn.useq (hwi) ?_ | intro _ | refine And.intro (by omega) ?_) | simp (config := { maxSteps := 1000000 }) (disch := (first | omega | (simp only [go_sem]; try omega))) only [go_sem, Nat.reduceAdd, Nat.reduceEqDiff, Nat.reduceLeDiff, Nat.reduceMul, Nat.reduceLT, reduceIte, Int.reduceToNat, w64_id, cast_succ, hgk])
        refine SW.condT rfl ?_
        repeat (first | (with_reducible first | refine SW.seq ?_ | refine SW.block ?_ | refine SW.rowC ?_ | refine SW.skip ?_ | refine SW.exit ?_ | intro _ | refine And.intro (by omega) ?_) | simp (config := { maxSteps := 1000000 }) (disch := (first | omega | (simp only [go_sem]; try omega))) only [go_sem, Nat.reduceAdd, Nat.reduceEqDiff, Nat.reduceLeDiff, Nat.reduceMul, Nat.reduceLT, reduceIte, Int.reduceToNat, w64_id, cast_succ])
        refine SW.ret ?_; (try simp only [go_sem]); (first | refine FunPost.one ?_ | refine FunPost.two ?_ | refine FunPost.three ?_); (try simp (config := { maxSteps := 1000000 }) (disch := (first | omega | (simp only [go_sem]; try omega))) only [go_sem, Nat.reduceAdd, Nat.reduceEqDiff, Nat.reduceLeDiff, Nat.reduceMul, Nat.reduceLT, reduceIte, Int.reduceToNat, w64_id, cast_succ]); (first | (with_reducible refine GR.drop ?_ ?_; (simp only [go_sem, and_self, and_true, true_and, implies_true, List.take_succ_cons, List.take_zero])) | refine GR.of ?_); refine ⟨?_, rfl⟩; (try with_reducible rfl)
      · rw [hw] at hwi
        repeat (first | (with_reducible first | refine SW.seq ?_ | refine SW.block ?_ | refine SW.rowC ?_ | refine SW.skip ?_ | refine SW.exit ?_ | refine PFn.use (hwi) ?_ | refine PFn.useq (hwi) ?_ | intro _ | refine And.intro (by omega) ?_) | simp (config := { maxSteps := 1000000 }) (disch := (first | omega | (simp only [go_sem]; try omega))) only [go_sem, Nat.reduceAdd, Nat.reduceEqDiff, Nat.reduceLeDiff, Nat.reduceMul, Nat.reduceLT, reduceIte, Int.reduceToNat, w64_id, cast_succ, hgk])
        refine SW.condF rfl ?_
        repeat (first | (with_reducible first | refine SW.seq ?_ | refine SW.block ?_ | refine SW.rowC ?_ | refine SW.skip ?_ | refine SW.exit ?_ | intro _ | refine And.intro (by omega) ?_) | simp (config := { maxSteps := 1000000 }) (disch := (first | omega | (simp only [go_sem]; try omega))) only [go_sem, Nat.reduceAdd, Nat.reduceEqDiff, Nat.reduceLeDiff, Nat.reduceMul, Nat.reduceLT, reduceIte, Int.reduceToNat, w64_id, cast_succ])
        refine SLoop.next post.length (by simp) ⟨pre ++ [k], post, by simp [hpp], rfl, ?_, rfl, ?_⟩
        · simp [go_sem]
        · rw [List.all_append, hal]; simpa using hw
    · obtain ⟨rfl, rfl⟩ := nilOf hpp (by omega)
      rw [if_pos hal]
      repeat (first | (with_reducible first | refine SW.seq ?_ | refine SW.block ?_ | refine SW.rowC ?_ | refine SW.skip ?_ | refine SW.exit ?_ | intro _ | refine And.intro (by omega) ?_) | simp (config := { maxSteps := 1000000 }) (disch := (first | omega | (simp only [go_sem]; try omega))) only [go_sem, Nat.reduceAdd, Nat.reduceEqDiff, Nat.reduceLeDiff, Nat.reduceMul, Nat.reduceLT, reduceIte, Int.reduceToNat, w64_id, cast_succ])
      refine SW.loopE (fun E0 H0 q E' H' => ∃ (pr post : List Int), pre = pr ++ post ∧ q = post.length ∧ E' = aput E0 26 (I pr.length) ∧ H' = H0 ∧ (pr.any fun k => decide (2000 < chooseI n k)) = false) pre.length ⟨[], pre, rfl, rfl, rfl, rfl, rfl⟩ ?_
      rintro q E' H' ⟨pr, post, hp2, rfl, rfl, rfl, han⟩
      simp (config := { maxSteps := 1000000 }) (disch := (first | omega | (simp only [go_sem]; try omega))) only [go_sem, Nat.reduceAdd, Nat.reduceEqDiff, Nat.reduceLeDiff, Nat.reduceMul, Nat.reduceLT, reduceIte, Int.reduceToNat, w64_id, cast_succ]
      repeat (first | (with_reducible first | refine SW.seq ?_ | refine SW.block ?_ | refine SW.rowC ?_ | refine SW.skip ?_ | refine SW.exit ?_ | intro _ | refine And.intro (by omega) ?_) | simp (config := { maxSteps := 1000000 }) (disch := (first | omega | (simp only [go_sem]; try omega))) only [go_sem, Nat.reduceAdd, Nat.reduceEqDiff, Nat.reduceLeDiff, Nat.reduceMul, Nat.reduceLT, reduceIte, Int.reduceToNat, w64_id, cast_succ])
      (first | refine SW.condD rfl (fun h3 => ?_) (fun h3 => ?_) | refine SW.condN rfl (fun h3 => ?_) (fun h3 => ?_) | refine SW.condNB rfl (fun h3 => ?_) (fun h3 => ?_) | refine SW.condB rfl (fun h3 => ?_) (fun h3 => ?_))
      · obtain ⟨k, post, rfl, hgk, -⟩ := consOf (d := 0) hp2 (by omega)
        have hch := implChoose_fn n k
        by_cases hc : 2000 < chooseI n k
        · have dc : decide (2000 < chooseI n k) = true := decide_eq_true hc
          have hyes : (pre.any fun k => decide (2000 < chooseI n k)) = true := by rw [List.any_eq_true]; exact ⟨k, by rw [hp2]; simp, dc⟩
          rw [if_pos hyes]
          repeat (first | (with_reducible first | refine SW.seq ?_ | refine SW.block ?_ | refine SW.rowC ?_ | refine SW.skip ?_ | refine SW.exit ?_ | refine PFn.use (hch) ?_ | refine PFn.useq (hch) ?_ | intro _ | refine And.intro (by omega) ?_) | simp (config := { maxSteps := 1000000 }) (disch := (first | omega | (simp only [go_sem]; try omega))) only [go_sem, Nat.reduceAdd, Nat.reduceEqDiff, Nat.reduceLeDiff, Nat.reduceMul, Nat.reduceLT, reduceIte, Int.reduceToNat, w64_id, cast_succ, hgk, dc])
          refine SW.condT rfl ?_
          repeat (first | (with_reducible first | refine SW.seq ?_ | refine SW.block ?_ | refine SW.rowC ?_ | refine SW.skip ?_ | refine SW.exit ?_ | intro _ | refine And.intro (by omega) ?_) | simp (config := { maxSteps := 1000000 }) (disch := (first | omega | (simp only [go_sem]; try omega))) only [go_sem, Nat.reduceAdd, Nat.reduceEqDiff, Nat.reduceLeDiff, Nat.reduceMul, Nat.reduceLT, reduceIte, Int.reduceToNat, w64_id, cast_succ])
          refine SW.ret ?_; (try simp only [go_sem]); (first | refine FunPost.one ?_ | refine FunPost.two ?_ | refine FunPost.three ?_); (try simp (config := { maxSteps := 1000000 }) (disch := (first | omega | (simp only [go_sem]; try omega))) only [go_sem, Nat.reduceAdd, Nat.reduceEqDiff, Nat.reduceLeDiff, Nat.reduceMul, Nat.reduceLT, reduceIte, Int.reduceToNat, w64_id, cast_succ]); (first | (with_reducible refine GR.drop ?_ ?_; (simp only [go_sem, and_self, and_true, true_and, implies_true, List.take_succ_cons, List.take_zero])) | refine GR.of ?_); refine ⟨?_, rfl⟩; (try with_reducible rfl)
        · have dc : decide (2000 < chooseI n k) = false := decide_eq_false hc
          repeat (first | (with_reducible first | refine SW.seq ?_ | refine SW.block ?_ | refine SW.rowC ?_ | refine SW.skip ?_ | refine SW.exit ?_ | refine PFn.use (hch) ?_ | refine PFn.useq (hch) ?_ | intro _ | refine And.intro (by omega) ?_) | simp (config := { maxSteps := 1000000 }) (disch := (first | omega | (simp only [go_sem]; try omega))) only [go_sem, Nat.reduceAdd, Nat.reduceEqDiff, Nat.reduceLeDiff, Nat.reduceMul, Nat.reduceLT, reduceIte, Int.reduceToNat, w64_id, cast_succ, hgk, dc])
          refine SW.condF rfl ?_
          repeat (first | (with_reducible first | refine SW.seq ?_ | refine SW.block ?_ | refine SW.rowC ?_ | refine SW.skip ?_ | refine SW.exit ?_ | intro _ | refine And.intro (by omega) ?_) | simp (config := { maxSteps := 1000000 }) (disch := (first | omega | (simp only [go_sem]; try omega))) only [go_sem, Nat.reduceAdd, Nat.reduceEqDiff, Nat.reduceLeDiff, Nat.reduceMul, Nat.reduceLT, reduceIte, Int.reduceToNat, w64_id, cast_succ])
          refine SLoop.next post.length (by simp) ⟨pr ++ [k], post, by simp [hp2], rfl, ?_, rfl, ?_⟩
          · simp [go_sem]
          · rw [List.any_append, han]; simpa using hc
      · obtain ⟨rfl, rfl⟩ := nilOf hp2 (by omega)
        rw [if_neg (by rw [han]; simp)]
        repeat (first | (with_reducible first | refine SW.seq ?_ | refine SW.block ?_ | refine SW.rowC ?_ | refine SW.skip ?_ | refine SW.exit ?_ | intro _ | refine And.intro (by omega) ?_) | simp (config := { maxSteps := 1000000 }) (disch := (first | omega | (simp only [go_sem]; try omega))) only [go_sem, Nat.reduceAdd, Nat.reduceEqDiff, Nat.reduceLeDiff, Nat.reduceMul, Nat.reduceLT, reduceIte, Int.reduceToNat, w64_id, cast_succ])
        refine SW.ret ?_; (try simp only [go_sem]); (first | refine FunPost.one ?_ | refine FunPost.two ?_ | refine FunPost.three ?_); (try simp (config := { maxSteps := 1000000 }) (disch := (first | omega | (simp only [go_sem]; try omega))) only [go_sem, Nat.reduceAdd, Nat.reduceEqDiff, Nat.reduceLeDiff, Nat.reduceMul, Nat.reduceLT, reduceIte, Int.reduceToNat, w64_id, cast_succ]); (first | (with_reducible refine GR.drop ?_ ?_; (simp only [go_sem, and_self, and_true, true_and, implies_true, List.take_succ_cons, List.take_zero])) | refine GR.of ?_); refine ⟨?_, rfl⟩; (try with_reducible rfl)
  · rw [if_neg hg]
    rw [Bool.not_eq_true] at hg
    rw [hg] at hv
    intro H; refine ACalls.introB s_impl_countable (by simp) ?_; intro hB hA; unfold c_impl_countable; simp (config := { maxSteps := 1000000 }) (disch := (first | omega | (simp only [go_sem]; try omega))) only [go_sem, Nat.reduceAdd, Nat.reduceEqDiff, Nat.reduceLeDiff, Nat.reduceMul, Nat.reduceLT, reduceIte, Int.reduceToNat, w64_id, cast_succ]
    repeat (first | (with_reducible first | refine SW.seq ?_ | refine SW.block ?_ | refine SW.rowC ?_ | refine SW.skip ?_ | refine SW.exit ?_ | refine PFn.use (hv) ?_ | refine PFn.useq (hv) ?_ | intro _ | refine And.intro (by omega) ?_) | simp (config := { maxSteps := 1000000 }) (disch := (first | omega | (simp only [go_sem]; try omega))) only [go_sem, Nat.reduceAdd, Nat.reduceEqDiff, Nat.reduceLeDiff, Nat.reduceMul, Nat.reduceLT, reduceIte, Int.reduceToNat, w64_id, cast_succ])
    refine SW.condT rfl ?_
    repeat (first | (with_reducible first | refine SW.seq ?_ | refine SW.block ?_ | refine SW.rowC ?_ | refine SW.skip ?_ | refine SW.exit ?_ | intro _ | refine And.intro (by omega) ?_) | simp (config := { maxSteps := 1000000 }) (disch := (first | omega | (simp only [go_sem]; try omega))) only [go_sem, Nat.reduceAdd, Nat.reduceEqDiff, Nat.reduceLeDiff, Nat.reduceMul, Nat.reduceLT, reduceIte, Int.reduceToNat, w64_id, cast_succ])
    refine SW.ret ?_; (try simp only [go_sem]); (first | refine FunPost.one ?_ | refine FunPost.two ?_ | refine FunPost.three ?_); (try simp (config := { maxSteps := 1000000 }) (disch := (first | omega | (simp only [go_sem]; try omega))) only [go_sem, Nat.reduceAdd, Nat.reduceEqDiff, Nat.reduceLeDiff, Nat.reduceMul, Nat.reduceLT, reduceIte, Int.reduceToNat, w64_id, cast_succ]); (first | (with_reducible refine GR.drop ?_ ?_; (simp only [go_sem, and_self, and_true, true_and, implies_true, List.take_succ_cons, List.take_zero])) | refine GR.of ?_); refine ⟨?_, rfl⟩; (try with_reducible rfl)
end Go.Proofs.YthogadbnddmkdaaGreat
namespace Go.Proofs.YthogadbnddmkdaaGreat
open Go.Av
@[go_sem] theorem ren_il3 {H : List Blk} {k : Nat} {js : List (Option Nat)} (xs : List (List (List Int))) : Ren H k js (il3 xs) (il3 xs) := .old _ (by rw [Bel_il3]; trivial)
end Go.Proofs.YthogadbnddmkdaaGreat
