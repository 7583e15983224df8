/- Orbits of sets counted by what each permutation keeps. -/
import Derived.Test.YthogadbnddmkdaaGreatProg
import Derived.KernelRfl
import Derived.Test.YthogadbnddmkdaaGreatzVB
import Derived.Test.YthogadbnddmkdaaGreatzK50
set_option linter.unusedSimpArgs false
set_option linter.unusedVariables false
set_option maxHeartbeats 4000000
set_option maxRecDepth 100000
namespace Go.Proofs.YthogadbnddmkdaaGreat
open Go.Av
abbrev f_impl_CountSubsetOrbits : Nat := 22
def c_impl_CountSubsetOrbits : SC :=
 .seq (.reg [
     ⟨(some 2), .box 44 (.tmp 0), none⟩,
     ⟨(some 4), .mv (.const (.int .i64 0)), none⟩,
     ⟨(some 5), .mv (.const (.int .i64 0)), none⟩] [1, 2])
 (.seq (.seq (.reg [
     ⟨(some 9), .load 2 true (.tmp 2), none⟩,
     ⟨(some 10), .call 62 [(.tmp 9)], none⟩,
     ⟨(some 11), .un .not (.tmp 10), none⟩] [1, 2, 11])
 (.cond (.tmp 11)
  (.seq (.reg [
      ⟨(some 4), .mv (.const (.int .i64 0)), none⟩,
      ⟨(some 5), .mv (.const (.int .i64 1)), none⟩] [4, 5])
  (.ret))
  (.skip)))
 (.seq (.seq (.reg [
     ⟨(some 12), .mv (.tmp 1), none⟩,
     ⟨(some 13), .faddr 0 (.tmp 2), none⟩,
     ⟨(some 14), .load 1 false (.tmp 13), none⟩,
     ⟨(some 15), .call 52 [(.tmp 12), (.const (.int .i64 0)), (.tmp 14)], none⟩,
     ⟨(some 16), .un .not (.tmp 15), none⟩] [1, 2, 16])
 (.cond (.tmp 16)
  (.seq (.reg [
      ⟨(some 4), .mv (.const (.int .i64 0)), none⟩,
      ⟨(some 5), .mv (.const (.int .i64 2)), none⟩] [4, 5])
  (.ret))
  (.skip)))
 (.seq (.reg [
     ⟨(some 6), .mv (.const (.int .i64 0)), none⟩] [1, 2, 6])
 (.seq (.seq (.reg [
     ⟨(some 17), .faddr 1 (.tmp 2), none⟩,
     ⟨(some 18), .load 1 false (.tmp 17), none⟩,
     ⟨(some 19), .len (.tmp 18), none⟩,
     ⟨(some 20), .mv (.const (.int .i64 0)), none⟩] [1, 2, 6, 18, 19, 20])
 (.block 0 (.loop [1, 2, 6, 18, 19, 20]
   (.seq (.reg [
       ⟨(some 21), .bin .lss (.tmp 20) (.tmp 19), none⟩] [1, 2, 6, 18, 19, 20, 21])
   (.seq (.cond (.tmp 21)
    (.skip)
    (.exit 0))
   (.seq (.block 1 (.seq (.reg [
        ⟨(some 22), .iaddr 1 (.tmp 18) (.tmp 20), none⟩,
        ⟨(some 23), .load 1 false (.tmp 22), none⟩,
        ⟨(some 8), .mv (.tmp 23), none⟩] [1, 2, 6, 8, 18, 19, 20])
    (.reg [
        ⟨(some 24), .mv (.tmp 6), none⟩,
        ⟨(some 25), .mv (.tmp 8), none⟩,
        ⟨(some 26), .mv (.tmp 1), none⟩,
        ⟨(some 27), .call 63 [(.tmp 25), (.tmp 26)], none⟩,
        ⟨(some 28), .bin .add (.tmp 24) (.tmp 27), none⟩,
        ⟨(some 6), .mv (.tmp 28), none⟩] [1, 2, 6, 18, 19, 20])))
   (.reg [
       ⟨(some 29), .bin .add (.tmp 20) (.const (.int .i64 1)), none⟩,
       ⟨(some 20), .mv (.tmp 29), none⟩] [1, 2, 6, 18, 19, 20])))))))
 (.seq (.reg [
     ⟨(some 30), .mv (.tmp 6), none⟩,
     ⟨(some 31), .faddr 1 (.tmp 2), none⟩,
     ⟨(some 32), .load 1 false (.tmp 31), none⟩,
     ⟨(some 33), .call 64 [(.tmp 32)], none⟩,
     ⟨(some 34), .bin .quo (.tmp 30) (.tmp 33), none⟩,
     ⟨(some 4), .mv (.tmp 34), none⟩,
     ⟨(some 5), .mv (.const (.int .i64 0)), none⟩] [4, 5])
 (.ret))))))
theorem s_impl_CountSubsetOrbits : stripF Tryz.prog 22 [[1, 2], [1, 2, 11], [4, 5], [1, 2, 16], [4, 5], [1, 2, 6], [1, 2, 6, 18, 19, 20], [1, 2, 6, 18, 19, 20], [1, 2, 6, 18, 19, 20, 21], [1, 2, 6, 8, 18, 19, 20], [1, 2, 6, 18, 19, 20], [1, 2, 6, 18, 19, 20], [4, 5]] = some (c_impl_CountSubsetOrbits, [.tmp 4, .tmp 5], 35) := by kernel_rfl
def sumF (k : Nat) (els : List (List Int)) : Int := els.foldl (fun s p => s + fxV p k) 0
theorem sumF_snoc (k : Nat) (els : List (List Int)) (p : List Int) : sumF k (els ++ [p]) = sumF k els + fxV p k := by unfold sumF; rw [List.foldl_append]; rfl
theorem sumF_in (k : Nat) (els : List (List Int)) : (∀ p ∈ els, p.length ≤ 32) → 0 ≤ sumF k els ∧ sumF k els ≤ els.length * 4294967296 := by
  rw [← List.reverse_reverse els]
  induction els.reverse with
  | nil => intro _; simp [sumF]
  | cons p l ih =>
    rw [List.reverse_cons]
    intro h
    have ih := ih (fun q hq => h q (by simp at hq ⊢; exact .inl hq))
    have hp := fxV_in (p := p) (k := k) (h p (by simp))
    rw [sumF_snoc]
    simp at ih ⊢
    omega
noncomputable def coV (n : Int) (els : List (List Int)) (k : Int) : Int × Int := if grpB n els = true then (if 0 ≤ k ∧ k ≤ n then (w64 ((sumF k.toNat els).tdiv (els.length : Int)), 0) else (0, 2)) else (0, 1)
theorem implCount_fn (n : Int) (els : List (List Int)) (k : Int) (hl : ∀ x ∈ els, x.length ≤ 2000000) (hl2 : els.length ≤ 2000000) :
    PFn Tryz.prog f_impl_CountSubsetOrbits [.agg [I n, ilSS els], I k] (.tup [I (coV n els k).1, I (coV n els k).2]) := by
  have hv := ValidGroup_fn n els hl hl2
  have hwi := within_fn k 0 n
  unfold coV
  by_cases hg : grpB n els = true
  · have hgo := grpB_t.1 hg
    have hgn := hgo.1
    rw [if_pos hg]
    rw [hg] at hv
    by_cases hk : 0 ≤ k ∧ k ≤ n
    · rw [if_pos hk]
      rw [show (decide (0 ≤ k) && decide (k ≤ n)) = true by simp [hk]] at hwi
      obtain ⟨m, rfl⟩ := Int.eq_ofNat_of_zero_le hk.1
      rw [show ((m : Int)).toNat = m by simp]
      have en : n = ((n.toNat : Nat) : Int) := by omega
      have hfs := fun p hp => fixedSets_fn n.toNat m p (by omega) (by omega) (hgo.2.2.1 p hp)
      have hlen : ∀ p ∈ els, p.length ≤ 32 := fun p hp => by have := (hgo.2.2.1 p hp).1; omega
      have hin := fun pre => sumF_in m pre
      intro H; refine ACalls.introB s_impl_CountSubsetOrbits (by simp) ?_; intro hB hA; unfold c_impl_CountSubsetOrbits; simp (config := { maxSteps := 1000000 }) (disch := (first | omega | (simp only [go_sem]; try omega))) only [go_sem, Nat.reduceAdd, Nat.reduceEqDiff, Nat.reduceLeDiff, Nat.reduceMul, Nat.reduceLT, reduceIte, Int.reduceToNat, w64_id, cast_succ]
      repeat (first | (with_reducible first | refine SW.seq ?_ | refine SW.block ?_ | refine SW.rowC ?_ | refine SW.skip ?_ | refine SW.exit ?_ | refine PFn.use (hv) ?_ | refine PFn.useq (hv) ?_ | intro _ | refine And.intro (by omega) ?_) | simp (config := { maxSteps := 1000000 }) (disch := (first | omega | (simp only [go_sem]; try omega))) only [go_sem, Nat.reduceAdd, Nat.reduceEqDiff, Nat.reduceLeDiff, Nat.reduceMul, Nat.reduceLT, reduceIte, Int.reduceToNat, w64_id, cast_succ])
      refine SW.condF rfl ?_
      repeat (first | (with_reducible first | refine SW.seq ?_ | refine SW.block ?_ | refine SW.rowC ?_ | refine SW.skip ?_ | refine SW.exit ?_ | refine PFn.use (hwi) ?_ | refine PFn.useq (hwi) ?_ | intro _ | refine And.intro (by omega) ?_) | simp (config := { maxSteps := 1000000 }) (disch := (first | omega | (simp only [go_sem]; try omega))) only [go_sem, Nat.reduceAdd, Nat.reduceEqDiff, Nat.reduceLeDiff, Nat.reduceMul, Nat.reduceLT, reduceIte, Int.reduceToNat, w64_id, cast_succ])
      refine SW.condF rfl ?_
      repeat (first | (with_reducible first | refine SW.seq ?_ | refine SW.block ?_ | refine SW.rowC ?_ | refine SW.skip ?_ | refine SW.exit ?_ | intro _ | refine And.intro (by omega) ?_) | simp (config := { maxSteps := 1000000 }) (disch := (first | omega | (simp only [go_sem]; try omega))) only [go_sem, Nat.reduceAdd, Nat.reduceEqDiff, Nat.reduceLeDiff, Nat.reduceMul, Nat.reduceLT, reduceIte, Int.reduceToNat, w64_id, cast_succ])
      refine SW.loopE (fun E0 H0 q E' H' => ∃ pre post : List (List Int), els = pre ++ post ∧ q = post.length ∧ E' = aput (aput E0 20 (I pre.length)) 6 (I (sumF m pre)) ∧ H' = H0) els.length ⟨[], els, rfl, rfl, rfl, rfl⟩ ?_
      rintro q E' H' ⟨pre, post, hpp, rfl, rfl, rfl⟩
      have hpre := hin pre (fun x hx => hlen x (by rw [hpp]; simp [hx]))
      have hprl : pre.length ≤ 720 := by have := hgo.2.1.2; rw [hpp] at this; simp at this; omega
      have hsn := sumF_snoc m pre
      generalize hS : sumF m pre = S at *
      simp (config := { maxSteps := 1000000 }) (disch := (first | omega | (simp only [go_sem]; try omega))) only [go_sem, Nat.reduceAdd, Nat.reduceEqDiff, Nat.reduceLeDiff, Nat.reduceMul, Nat.reduceLT, reduceIte, Int.reduceToNat, w64_id, cast_succ]
      repeat (first | (with_reducible first | refine SW.seq ?_ | refine SW.block ?_ | refine SW.rowC ?_ | refine SW.skip ?_ | refine SW.exit ?_ | intro _ | refine And.intro (by omega) ?_) | simp (config := { maxSteps := 1000000 }) (disch := (first | omega | (simp only [go_sem]; try omega))) only [go_sem, Nat.reduceAdd, Nat.reduceEqDiff, Nat.reduceLeDiff, Nat.reduceMul, Nat.reduceLT, reduceIte, Int.reduceToNat, w64_id, cast_succ])
      (first | refine SW.condD rfl (fun h => ?_) (fun h => ?_) | refine SW.condN rfl (fun h => ?_) (fun h => ?_) | refine SW.condNB rfl (fun h => ?_) (fun h => ?_) | refine SW.condB rfl (fun h => ?_) (fun h => ?_))
      · cases post with
        | nil => exfalso; subst hpp; simp at h
        | cons p post =>
        have hgp : els.getD pre.length [] = p := by subst hpp; simp
        have hpm : p ∈ els := by rw [hpp]; simp
        have hf := hfs p hpm
        have hfb := fxV_in (p := p) (k := m) (hlen p hpm)
        repeat (first | (with_reducible first | refine SW.seq ?_ | refine SW.block ?_ | refine SW.rowC ?_ | refine SW.skip ?_ | refine SW.exit ?_ | refine PFn.use (hf) ?_ | refine PFn.useq (hf) ?_ | intro _ | refine And.intro (by omega) ?_) | simp (config := { maxSteps := 1000000 }) (disch := (first | omega | (simp only [go_sem]; try omega))) only [go_sem, Nat.reduceAdd, Nat.reduceEqDiff, Nat.reduceLeDiff, Nat.reduceMul, Nat.reduceLT, reduceIte, Int.reduceToNat, w64_id, cast_succ, hgp])
        refine SLoop.next post.length (by simp) ⟨pre ++ [p], post, by simp [hpp], rfl, ?_, rfl⟩
        rw [hsn]; simp [go_sem]
      · have : post = [] := by cases post with
          | nil => rfl
          | cons x post => exfalso; subst hpp; simp at h; omega
        subst this
        rw [List.append_nil] at hpp
        subst hpp
        rw [hS]
        have hne : ((els.length : Nat) : Int) ≠ 0 := by have := hgo.2.1.1; omega
        repeat (first | (with_reducible first | refine SW.seq ?_ | refine SW.block ?_ | refine SW.rowC ?_ | refine SW.skip ?_ | refine SW.exit ?_ | refine PFn.use (sizeS_fn els) ?_ | refine PFn.useq (sizeS_fn els) ?_ | intro _ | refine And.intro (by omega) ?_) | simp (config := { maxSteps := 1000000 }) (disch := (first | omega | (simp only [go_sem]; try omega))) only [go_sem, Nat.reduceAdd, Nat.reduceEqDiff, Nat.reduceLeDiff, Nat.reduceMul, Nat.reduceLT, reduceIte, Int.reduceToNat, w64_id, cast_succ, hne])
        refine SW.ret ?_; (try simp only [go_sem]); (first | refine FunPost.one ?_ | refine FunPost.two ?_ | refine FunPost.three ?_); (try simp (config := { maxSteps := 1000000 }) (disch := (first | omega | (simp only [go_sem]; try omega))) only [go_sem, Nat.reduceAdd, Nat.reduceEqDiff, Nat.reduceLeDiff, Nat.reduceMul, Nat.reduceLT, reduceIte, Int.reduceToNat, w64_id, cast_succ]); (first | (with_reducible refine GR.drop ?_ ?_; (simp only [go_sem, and_self, and_true, true_and, implies_true, List.take_succ_cons, List.take_zero])) | refine GR.of ?_); refine ⟨?_, rfl⟩; (try with_reducible rfl)
    · rw [if_neg hk]
      rw [show (decide (0 ≤ k) && decide (k ≤ n)) = false by rw [Bool.and_eq_false_iff, decide_eq_false_iff_not, decide_eq_false_iff_not]; omega] at hwi
      intro H; refine ACalls.introB s_impl_CountSubsetOrbits (by simp) ?_; intro hB hA; unfold c_impl_CountSubsetOrbits; simp (config := { maxSteps := 1000000 }) (disch := (first | omega | (simp only [go_sem]; try omega))) only [go_sem, Nat.reduceAdd, Nat.reduceEqDiff, Nat.reduceLeDiff, Nat.reduceMul, Nat.reduceLT, reduceIte, Int.reduceToNat, w64_id, cast_succ]
      repeat (first | (with_reducible first | refine SW.seq ?_ | refine SW.block ?_ | refine SW.rowC ?_ | refine SW.skip ?_ | refine SW.exit ?_ | refine PFn.use (hv) ?_ | refine PFn.useq (hv) ?_ | intro _ | refine And.intro (by omega) ?_) | simp (config := { maxSteps := 1000000 }) (disch := (first | omega | (simp only [go_sem]; try omega))) only [go_sem, Nat.reduceAdd, Nat.reduceEqDiff, Nat.reduceLeDiff, Nat.reduceMul, Nat.reduceLT, reduceIte, Int.reduceToNat, w64_id, cast_succ])
      refine SW.condF rfl ?_
      repeat (first | (with_reducible first | refine SW.seq ?_ | refine SW.block ?_ | refine SW.rowC ?_ | refine SW.skip ?_ | refine SW.exit ?_ | refine PFn.use (hwi) ?_ | refine PFn.useq (hwi) ?_ | intro _ | refine And.intro (by omega) ?_) | simp (config := { maxSteps := 1000000 }) (disch := (first | omega | (simp only [go_sem]; try omega))) only [go_sem, Nat.reduceAdd, Nat.reduceEqDiff, Nat.reduceLeDiff, Nat.reduceMul, Nat.reduceLT, reduceIte, Int.reduceToNat, w64_id, cast_succ])
      refine SW.condT rfl ?_
      repeat (first | (with_reducible first | refine SW.seq ?_ | refine SW.block ?_ | refine SW.rowC ?_ | refine SW.skip ?_ | refine SW.exit ?_ | intro _ | refine And.intro (by omega) ?_) | simp (config := { maxSteps := 1000000 }) (disch := (first | omega | (simp only [go_sem]; try omega))) only [go_sem, Nat.reduceAdd, Nat.reduceEqDiff, Nat.reduceLeDiff, Nat.reduceMul, Nat.reduceLT, reduceIte, Int.reduceToNat, w64_id, cast_succ])
      refine SW.ret ?_; (try simp only [go_sem]); (first | refine FunPost.one ?_ | refine FunPost.two ?_ | refine FunPost.three ?_); (try simp (config := { maxSteps := 1000000 }) (disch := (first | omega | (simp only [go_sem]; try omega))) only [go_sem, Nat.reduceAdd, Nat.reduceEqDiff, Nat.reduceLeDiff, Nat.reduceMul, Nat.reduceLT, reduceIte, Int.reduceToNat, w64_id, cast_succ]); (first | (with_reducible refine GR.drop ?_ ?_; (simp only [go_sem, and_self, and_true, true_and, implies_true, List.take_succ_cons, List.take_zero])) | refine GR.of ?_); refine ⟨?_, rfl⟩; (try with_reducible rfl)
  · rw [if_neg hg]
    rw [Bool.not_eq_true] at hg
    rw [hg] at hv
    intro H; refine ACalls.introB s_impl_CountSubsetOrbits (by simp) ?_; intro hB hA; unfold c_impl_CountSubsetOrbits; simp (config := { maxSteps := 1000000 }) (disch := (first | omega | (simp only [go_sem]; try omega))) only [go_sem, Nat.reduceAdd, Nat.reduceEqDiff, Nat.reduceLeDiff, Nat.reduceMul, Nat.reduceLT, reduceIte, Int.reduceToNat, w64_id, cast_succ]
    repeat (first | (with_reducible first | refine SW.seq ?_ | refine SW.block ?_ | refine SW.rowC ?_ | refine SW.skip ?_ | refine SW.exit ?_ | refine PFn.use (hv) ?_ | refine PFn.useq (hv) ?_ | intro _ | refine And.intro (by omega) ?_) | simp (config := { maxSteps := 1000000 }) (disch := (first | omega | (simp only [go_sem]; try omega))) only [go_sem, Nat.reduceAdd, Nat.reduceEqDiff, Nat.reduceLeDiff, Nat.reduceMul, Nat.reduceLT, reduceIte, Int.reduceToNat, w64_id, cast_succ])
    refine SW.condT rfl ?_
    repeat (first | (with_reducible first | refine SW.seq ?_ | refine SW.block ?_ | refine SW.rowC ?_ | refine SW.skip ?_ | refine SW.exit ?_ | intro _ | refine And.intro (by omega) ?_) | simp (config := { maxSteps := 1000000 }) (disch := (first | omega | (simp only [go_sem]; try omega))) only [go_sem, Nat.reduceAdd, Nat.reduceEqDiff, Nat.reduceLeDiff, Nat.reduceMul, Nat.reduceLT, reduceIte, Int.reduceToNat, w64_id, cast_succ])
    refine SW.ret ?_; (try simp only [go_sem]); (first | refine FunPost.one ?_ | refine FunPost.two ?_ | refine FunPost.three ?_); (try simp (config := { maxSteps := 1000000 }) (disch := (first | omega | (simp only [go_sem]; try omega))) only [go_sem, Nat.reduceAdd, Nat.reduceEqDiff, Nat.reduceLeDiff, Nat.reduceMul, Nat.reduceLT, reduceIte, Int.reduceToNat, w64_id, cast_succ]); (first | (with_reducible refine GR.drop ?_ ?_; (simp only [go_sem, and_self, and_true, true_and, implies_true, List.take_succ_cons, List.take_zero])) | refine GR.of ?_); refine ⟨?_, rfl⟩; (try with_reducible rfl)
end Go.Proofs.YthogadbnddmkdaaGreat
