/- Counting packings: the program, the law. -/
import Derived.Test.YthogadbnddmkdaaGreatProg
import Derived.KernelRfl
import Derived.Test.YthogadbnddmkdaaGreatzSJ
import Derived.Test.YthogadbnddmkdaaGreatzSK
set_option linter.unusedSimpArgs false
set_option linter.unusedVariables false
set_option maxHeartbeats 4000000
set_option maxRecDepth 100000
namespace Go.Proofs.YthogadbnddmkdaaGreat
open Go.Av
abbrev f_impl_CountLabeled : Nat := 10
def c_impl_CountLabeled : SC :=
 .seq (.reg [
     ⟨(some 10), .mv (.const (.int .i64 0)), none⟩,
     ⟨(some 11), .mv (.const (.int .i64 0)), none⟩] [0, 1, 2, 3, 4])
 (.seq (.seq (.reg [
     ⟨(some 14), .mv (.tmp 4), none⟩,
     ⟨(some 15), .call 37 [(.tmp 14)], none⟩,
     ⟨(some 16), .un .not (.tmp 15), none⟩,
     ⟨(some 17), .mv (.tmp 16), none⟩,
     ⟨(some 18), .mv (.tmp 0), (some (17, false))⟩,
     ⟨(some 19), .mv (.tmp 1), (some (17, false))⟩,
     ⟨(some 20), .mv (.tmp 2), (some (17, false))⟩,
     ⟨(some 21), .mv (.tmp 3), (some (17, false))⟩,
     ⟨(some 22), .call 35 [(.tmp 18), (.tmp 19), (.tmp 20), (.tmp 21)], (some (17, false))⟩,
     ⟨(some 23), .un .not (.tmp 22), (some (17, false))⟩,
     ⟨(some 24), .pick (.tmp 17) (.const (.bool true)) (.tmp 23), none⟩] [0, 1, 2, 3, 4, 24])
 (.cond (.tmp 24)
  (.seq (.reg [
      ⟨(some 10), .mv (.const (.int .i64 0)), none⟩,
      ⟨(some 11), .mv (.const (.int .i64 2)), none⟩] [10, 11])
  (.ret))
  (.skip)))
 (.seq (.reg [
     ⟨(some 25), .mv (.tmp 4), none⟩,
     ⟨(some 26), .build [(.int .i64 0), (.bool false)] [(0, 1, (.tmp 25))], none⟩,
     ⟨(some 27), .mv (.tmp 0), none⟩,
     ⟨(some 28), .mv (.tmp 1), none⟩,
     ⟨(some 29), .call 38 [(.tmp 27), (.tmp 28)], none⟩,
     ⟨(some 30), .mv (.tmp 2), none⟩,
     ⟨(some 31), .mv (.tmp 3), none⟩,
     ⟨(some 32), .build [(.int .i64 0), (.bool false), (.slice none 0 0), (.int .i64 0), (.int .i64 0)] [(0, 2, (.tmp 26)), (2, 1, (.tmp 29)), (3, 1, (.tmp 30)), (4, 1, (.tmp 31))], none⟩,
     ⟨(some 33), .box 73 (.tmp 32), none⟩,
     ⟨(some 12), .mv (.tmp 33), none⟩] [12])
 (.seq (.reg [
     ⟨(some 34), .mv (.tmp 12), none⟩,
     ⟨(some 35), .call 39 [(.tmp 34), (.const (.slice none 0 0)), (.const (.int .i64 0))], none⟩,
     ⟨(some 13), .mv (.tmp 35), none⟩] [12, 13])
 (.seq (.seq (.reg [
     ⟨(some 36), .mv (.tmp 12), none⟩,
     ⟨(some 37), .nilc (.tmp 36), none⟩,
     ⟨(some 38), .faddr 0 (.tmp 37), none⟩,
     ⟨(some 39), .faddr 1 (.tmp 38), none⟩,
     ⟨(some 40), .load 1 false (.tmp 39), none⟩] [13, 40])
 (.cond (.tmp 40)
  (.seq (.reg [
      ⟨(some 10), .mv (.const (.int .i64 0)), none⟩,
      ⟨(some 11), .mv (.const (.int .i64 5)), none⟩] [10, 11])
  (.ret))
  (.skip)))
 (.seq (.reg [
     ⟨(some 41), .mv (.tmp 13), none⟩,
     ⟨(some 10), .mv (.tmp 41), none⟩,
     ⟨(some 11), .mv (.const (.int .i64 0)), none⟩] [10, 11])
 (.ret))))))
theorem s_impl_CountLabeled : stripF Tryz.prog 10 [[0, 1, 2, 3, 4], [0, 1, 2, 3, 4, 24], [10, 11], [12], [12, 13], [13, 40], [10, 11], [10, 11]] = some (c_impl_CountLabeled, [.tmp 10, .tmp 11], 42) := by kernel_rfl
theorem implCountL_fn (v k m s b : Int) : PFn Tryz.prog f_impl_CountLabeled [I v, I k, I m, I s, I b] (.tup [I (cntV v k m s b).1, I (cntV v k m s b).2]) := by
  have h1 := isBudgetL_fn b
  have h2 := isPacking_fn v k m s
  unfold cntV
  cases hb : budB b
  · rw [hb] at h1
    intro H; refine ACalls.introB s_impl_CountLabeled (by simp) ?_; intro hB hA; unfold c_impl_CountLabeled; simp (config := { maxSteps := 1000000 }) (disch := (first | omega | (simp only [go_sem]; try omega))) only [go_sem, Nat.reduceAdd, Nat.reduceEqDiff, Nat.reduceLeDiff, Nat.reduceMul, Nat.reduceLT, reduceIte, Int.reduceToNat, w64_id, cast_succ]
    repeat (first | (with_reducible first | refine SW.seq ?_ | refine SW.block ?_ | refine SW.rowC ?_ | refine SW.skip ?_ | refine SW.exit ?_ | refine PFn.use (h1) ?_ | refine PFn.useq (h1) ?_ | intro _ | refine And.intro (by omega) ?_) | simp (config := { maxSteps := 1000000 }) (disch := (first | omega | (simp only [go_sem]; try omega))) only [go_sem, Nat.reduceAdd, Nat.reduceEqDiff, Nat.reduceLeDiff, Nat.reduceMul, Nat.reduceLT, reduceIte, Int.reduceToNat, w64_id, cast_succ])
    refine SW.condT rfl ?_
    repeat (first | (with_reducible first | refine SW.seq ?_ | refine SW.block ?_ | refine SW.rowC ?_ | refine SW.skip ?_ | refine SW.exit ?_ | intro _ | refine And.intro (by omega) ?_) | simp (config := { maxSteps := 1000000 }) (disch := (first | omega | (simp only [go_sem]; try omega))) only [go_sem, Nat.reduceAdd, Nat.reduceEqDiff, Nat.reduceLeDiff, Nat.reduceMul, Nat.reduceLT, reduceIte, Int.reduceToNat, w64_id, cast_succ])
    refine SW.ret ?_; (try simp only [go_sem]); (first | refine FunPost.one ?_ | refine FunPost.two ?_ | refine FunPost.three ?_); (try simp (config := { maxSteps := 1000000 }) (disch := (first | omega | (simp only [go_sem]; try omega))) only [go_sem, Nat.reduceAdd, Nat.reduceEqDiff, Nat.reduceLeDiff, Nat.reduceMul, Nat.reduceLT, reduceIte, Int.reduceToNat, w64_id, cast_succ]); (first | (with_reducible refine GR.drop ?_ ?_; (simp only [go_sem, and_self, and_true, true_and, implies_true, List.take_succ_cons, List.take_zero])) | refine GR.of ?_); refine ⟨?_, rfl⟩; (try with_reducible rfl)
  cases hpk : packB v k m s
  · rw [hb] at h1
    rw [hpk] at h2
    intro H; refine ACalls.introB s_impl_CountLabeled (by simp) ?_; intro hB hA; unfold c_impl_CountLabeled; simp (config := { maxSteps := 1000000 }) (disch := (first | omega | (simp only [go_sem]; try omega))) only [go_sem, Nat.reduceAdd, Nat.reduceEqDiff, Nat.reduceLeDiff, Nat.reduceMul, Nat.reduceLT, reduceIte, Int.reduceToNat, w64_id, cast_succ]
    repeat (first | (with_reducible first | refine SW.seq ?_ | refine SW.block ?_ | refine SW.rowC ?_ | refine SW.skip ?_ | refine SW.exit ?_ | refine PFn.use (h1) ?_ | refine PFn.useq (h1) ?_ | refine PFn.use (h2) ?_ | refine PFn.useq (h2) ?_ | intro _ | refine And.intro (by omega) ?_) | simp (config := { maxSteps := 1000000 }) (disch := (first | omega | (simp only [go_sem]; try omega))) only [go_sem, Nat.reduceAdd, Nat.reduceEqDiff, Nat.reduceLeDiff, Nat.reduceMul, Nat.reduceLT, reduceIte, Int.reduceToNat, w64_id, cast_succ])
    refine SW.condT rfl ?_
    repeat (first | (with_reducible first | refine SW.seq ?_ | refine SW.block ?_ | refine SW.rowC ?_ | refine SW.skip ?_ | refine SW.exit ?_ | intro _ | refine And.intro (by omega) ?_) | simp (config := { maxSteps := 1000000 }) (disch := (first | omega | (simp only [go_sem]; try omega))) only [go_sem, Nat.reduceAdd, Nat.reduceEqDiff, Nat.reduceLeDiff, Nat.reduceMul, Nat.reduceLT, reduceIte, Int.reduceToNat, w64_id, cast_succ])
    refine SW.ret ?_; (try simp only [go_sem]); (first | refine FunPost.one ?_ | refine FunPost.two ?_ | refine FunPost.three ?_); (try simp (config := { maxSteps := 1000000 }) (disch := (first | omega | (simp only [go_sem]; try omega))) only [go_sem, Nat.reduceAdd, Nat.reduceEqDiff, Nat.reduceLeDiff, Nat.reduceMul, Nat.reduceLT, reduceIte, Int.reduceToNat, w64_id, cast_succ]); (first | (with_reducible refine GR.drop ?_ ?_; (simp only [go_sem, and_self, and_true, true_and, implies_true, List.take_succ_cons, List.take_zero])) | refine GR.of ?_); refine ⟨?_, rfl⟩; (try with_reducible rfl)
  rw [hb] at h1
  rw [hpk] at h2
  obtain ⟨p1, p2, p3, p4, p5, p6⟩ := packB_t hpk
  simp only [budB, Bool.and_eq_true, decide_eq_true_eq] at hb
  obtain ⟨v, rfl⟩ := Int.eq_ofNat_of_zero_le (show 0 ≤ v by omega)
  obtain ⟨k, rfl⟩ := Int.eq_ofNat_of_zero_le (show 0 ≤ k by omega)
  obtain ⟨m, rfl⟩ := Int.eq_ofNat_of_zero_le (show 0 ≤ m by omega)
  obtain ⟨b, rfl⟩ := Int.eq_ofNat_of_zero_le (show 0 ≤ b by omega)
  simp only [Int.toNat_natCast, Bool.and_self, if_true]
  have hsub := subs_fn v k (by omega) (by omega)
  have hcl : ch v k ≤ 64 := by
    have h1 := ch_le v k
    have h2 : 2 ^ v ≤ 2 ^ 6 := Nat.pow_le_pow_right (by omega) (by omega)
    omega
  have hSl : (subsN v k).length = ch v k := subsL_len v 0 k
  have hSa : ∀ t ∈ subsN v k, t.length ≤ 32 := fun t ht => by
    have := (subsL_mem v 0 k t ht).1
    omega
  rw [← hSl] at hcl
  clear hSl
  generalize subsN v k = S at *
  intro H
  refine ACalls.introB s_impl_CountLabeled (by simp) ?_; intro hB hA; unfold c_impl_CountLabeled; simp (config := { maxSteps := 1000000 }) (disch := (first | omega | (simp only [go_sem]; try omega))) only [go_sem, Nat.reduceAdd, Nat.reduceEqDiff, Nat.reduceLeDiff, Nat.reduceMul, Nat.reduceLT, reduceIte, Int.reduceToNat, w64_id, cast_succ]
  repeat (first | (with_reducible first | refine SW.seq ?_ | refine SW.block ?_ | refine SW.rowC ?_ | refine SW.skip ?_ | refine SW.exit ?_ | refine PFn.use (h1) ?_ | refine PFn.useq (h1) ?_ | refine PFn.use (h2) ?_ | refine PFn.useq (h2) ?_ | intro _ | refine And.intro (by omega) ?_) | simp (config := { maxSteps := 1000000 }) (disch := (first | omega | (simp only [go_sem]; try omega))) only [go_sem, Nat.reduceAdd, Nat.reduceEqDiff, Nat.reduceLeDiff, Nat.reduceMul, Nat.reduceLT, reduceIte, Int.reduceToNat, w64_id, cast_succ])
  refine SW.condF rfl ?_
  repeat (first | (with_reducible first | refine SW.seq ?_ | refine SW.block ?_ | refine SW.rowC ?_ | refine SW.skip ?_ | refine SW.exit ?_ | refine PFn.use (hsub) ?_ | refine PFn.useq (hsub) ?_ | intro _ | refine And.intro (by omega) ?_) | simp (config := { maxSteps := 1000000 }) (disch := (first | omega | (simp only [go_sem]; try omega))) only [go_sem, Nat.reduceAdd, Nat.reduceEqDiff, Nat.reduceLeDiff, Nat.reduceMul, Nat.reduceLT, reduceIte, Int.reduceToNat, w64_id, cast_succ])
  have hrun := labCount_ok S m s (by omega) (by omega) hSa m (H ++ [labB b false S m s]) H.length nilS [] 0 b (.inl (.inr ⟨rfl, rfl⟩)) (by simp) (by simp) (by omega) (by omega) (by simp)
  refine hrun.mono ?_
  rintro r H1 ⟨c, left', spent, rfl, rfl, w1, w2, w3, w4⟩
  rw [List.set_append_right _ _ (Nat.le_refl _), Nat.sub_self]
  simp only [List.set_cons_zero, List.drop_zero] at w3 w4 ⊢
  have hgp : (H ++ [labB left' spent S m s])[H.length]? = some (labB left' spent S m s) := by simp
  have hpa := fun o => pc_alive (off := o) hgp
  have hpl := fun o => pc_ld (off := o) hgp
  unfold labB at hpa hpl ⊢
  cases spent
  · rw [w4 rfl]
    repeat (first | (with_reducible first | refine SW.seq ?_ | refine SW.block ?_ | refine SW.rowC ?_ | refine SW.skip ?_ | refine SW.exit ?_ | intro _ | refine And.intro (by omega) ?_) | simp (config := { maxSteps := 1000000 }) (disch := (first | omega | (simp only [go_sem]; try omega))) only [go_sem, Nat.reduceAdd, Nat.reduceEqDiff, Nat.reduceLeDiff, Nat.reduceMul, Nat.reduceLT, reduceIte, Int.reduceToNat, w64_id, cast_succ, hpa, hpl])
    refine SW.condF rfl ?_
    repeat (first | (with_reducible first | refine SW.seq ?_ | refine SW.block ?_ | refine SW.rowC ?_ | refine SW.skip ?_ | refine SW.exit ?_ | intro _ | refine And.intro (by omega) ?_) | simp (config := { maxSteps := 1000000 }) (disch := (first | omega | (simp only [go_sem]; try omega))) only [go_sem, Nat.reduceAdd, Nat.reduceEqDiff, Nat.reduceLeDiff, Nat.reduceMul, Nat.reduceLT, reduceIte, Int.reduceToNat, w64_id, cast_succ, hpa, hpl])
    refine SW.ret ?_; (try simp only [go_sem]); (first | refine FunPost.one ?_ | refine FunPost.two ?_ | refine FunPost.three ?_); (try simp (config := { maxSteps := 1000000 }) (disch := (first | omega | (simp only [go_sem]; try omega))) only [go_sem, Nat.reduceAdd, Nat.reduceEqDiff, Nat.reduceLeDiff, Nat.reduceMul, Nat.reduceLT, reduceIte, Int.reduceToNat, w64_id, cast_succ])
    exact GR.froz (froz_tup2 (froz_I' _) (froz_I' _)) ⟨rfl, rfl⟩
  · rw [w3 rfl]
    repeat (first | (with_reducible first | refine SW.seq ?_ | refine SW.block ?_ | refine SW.rowC ?_ | refine SW.skip ?_ | refine SW.exit ?_ | intro _ | refine And.intro (by omega) ?_) | simp (config := { maxSteps := 1000000 }) (disch := (first | omega | (simp only [go_sem]; try omega))) only [go_sem, Nat.reduceAdd, Nat.reduceEqDiff, Nat.reduceLeDiff, Nat.reduceMul, Nat.reduceLT, reduceIte, Int.reduceToNat, w64_id, cast_succ, hpa, hpl])
    refine SW.condT rfl ?_
    repeat (first | (with_reducible first | refine SW.seq ?_ | refine SW.block ?_ | refine SW.rowC ?_ | refine SW.skip ?_ | refine SW.exit ?_ | intro _ | refine And.intro (by omega) ?_) | simp (config := { maxSteps := 1000000 }) (disch := (first | omega | (simp only [go_sem]; try omega))) only [go_sem, Nat.reduceAdd, Nat.reduceEqDiff, Nat.reduceLeDiff, Nat.reduceMul, Nat.reduceLT, reduceIte, Int.reduceToNat, w64_id, cast_succ, hpa, hpl])
    refine SW.ret ?_; (try simp only [go_sem]); (first | refine FunPost.one ?_ | refine FunPost.two ?_ | refine FunPost.three ?_); (try simp (config := { maxSteps := 1000000 }) (disch := (first | omega | (simp only [go_sem]; try omega))) only [go_sem, Nat.reduceAdd, Nat.reduceEqDiff, Nat.reduceLeDiff, Nat.reduceMul, Nat.reduceLT, reduceIte, Int.reduceToNat, w64_id, cast_succ])
    exact GR.froz (froz_tup2 (froz_I' _) (froz_I' _)) ⟨rfl, rfl⟩
end Go.Proofs.YthogadbnddmkdaaGreat
