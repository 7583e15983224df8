/- Functions that look. -/
import Derived.Test.YtflnjgeoegofdaaProg
import Derived.KernelRfl
import Derived.Test.YtflnjgeoegofdaazK1
import Derived.Test.YtflnjgeoegofdaazL7
set_option linter.unusedSimpArgs false
set_option linter.unusedVariables false
set_option maxHeartbeats 4000000
set_option maxRecDepth 100000
namespace Go.Proofs.Ytflnjgeoegofdaa
open Go.Av
abbrev f_slices_ContainsFunc_LLint64_Lint64 : Nat := 35
def c_slices_ContainsFunc_LLint64_Lint64 : SC :=
 .seq (.reg [
     ⟨(some 4), .mv (.const (.bool false)), none⟩] [0, 1])
 (.seq (.reg [
     ⟨(some 5), .mv (.tmp 0), none⟩,
     ⟨(some 6), .mv (.tmp 1), none⟩,
     ⟨(some 7), .call 40 [(.tmp 5), (.tmp 6)], none⟩,
     ⟨(some 8), .bin .geq (.tmp 7) (.const (.int .i64 0)), none⟩,
     ⟨(some 4), .mv (.tmp 8), none⟩] [4])
 (.ret))
theorem s_slices_ContainsFunc_LLint64_Lint64 : stripF Try.prog 35 [[0, 1], [4]] = some (c_slices_ContainsFunc_LLint64_Lint64, [.tmp 4], 9) := by kernel_rfl
def c_slices_IndexFunc_LLint64_Lint64 : SC :=
 .seq (.reg [
     ⟨(some 4), .mv (.const (.int .i64 0)), none⟩] [0, 1])
 (.seq (.seq (.reg [
     ⟨(some 6), .mv (.tmp 0), none⟩,
     ⟨(some 7), .len (.tmp 6), none⟩,
     ⟨(some 8), .mv (.const (.int .i64 0)), none⟩] [0, 1, 7, 8])
 (.block 0 (.loop [0, 1, 7, 8]
   (.seq (.reg [
       ⟨(some 9), .bin .lss (.tmp 8) (.tmp 7), none⟩] [0, 1, 7, 8, 9])
   (.seq (.cond (.tmp 9)
    (.skip)
    (.exit 0))
   (.seq (.block 1 (.seq (.reg [
        ⟨(some 10), .mv (.tmp 8), none⟩,
        ⟨(some 5), .mv (.tmp 10), none⟩] [0, 1, 5, 7, 8])
    (.seq (.reg [
        ⟨(some 11), .mv (.tmp 1), none⟩,
        ⟨(some 12), .mv (.tmp 0), none⟩,
        ⟨(some 13), .mv (.tmp 5), none⟩,
        ⟨(some 14), .iaddr 1 (.tmp 12) (.tmp 13), none⟩,
        ⟨(some 15), .load 1 false (.tmp 14), none⟩,
        ⟨(some 16), .callv (.tmp 11) [(.tmp 15)], none⟩] [0, 1, 5, 7, 8, 16])
    (.cond (.tmp 16)
     (.seq (.reg [
         ⟨(some 17), .mv (.tmp 5), none⟩,
         ⟨(some 4), .mv (.tmp 17), none⟩] [4])
     (.ret))
     (.skip)))))
   (.reg [
       ⟨(some 18), .bin .add (.tmp 8) (.const (.int .i64 1)), none⟩,
       ⟨(some 8), .mv (.tmp 18), none⟩] [0, 1, 7, 8])))))))
 (.seq (.reg [
     ⟨(some 4), .mv (.const (.int .i64 (-1))), none⟩] [4])
 (.ret)))
theorem s_slices_IndexFunc_LLint64_Lint64 : stripF Try.prog 40 [[0, 1], [0, 1, 7, 8], [0, 1, 7, 8], [0, 1, 7, 8, 9], [0, 1, 5, 7, 8], [0, 1, 5, 7, 8, 16], [4], [0, 1, 7, 8], [4]] = some (c_slices_IndexFunc_LLint64_Lint64, [.tmp 4], 19) := by kernel_rfl
theorem within_fn (n lo hi : Int) : PFn Try.prog f_impl_within [I n, I lo, I hi] (Bv (decide (lo ≤ n) && decide (n ≤ hi))) := fun H => within_ok H n lo hi
theorem l00In_fn (n lo hi : Int) : PFn Try.prog f_spec_l00In [I n, I lo, I hi] (Bv (decide (lo ≤ n) && decide (n ≤ hi))) := fun H => l00In_ok H n lo hi
theorem idxSS_ok {f : Nat} {anns : List (List Nat)} (hs : stripF Try.prog f anns = some (c_slices_IndexFunc_LLint64_Lint64, [.tmp 4], 19)) {α : Type} (enc : α → AV) (H : List Blk) (a : AV) (xs : List α) (ha : aview H a = some (xs.length, xs.map enc))
    (g : Nat) (cs : List AV) (hg : callable Try.prog g = true) (p : α → Bool) (hp : ∀ x ∈ xs, ACalls Try.prog g (enc x :: cs) H (fun r H' => r = Bv (p x) ∧ H' = H)) :
    ACalls Try.prog f [a, .fn g cs] H (fun r H' => (∃ i : Int, r = I i ∧ (0 ≤ i ↔ xs.any p = true)) ∧ H' = H) := by
  refine ACalls.introB hs (by simp) ?_; intro hB hA; unfold c_slices_IndexFunc_LLint64_Lint64; simp (config := { maxSteps := 1000000 }) (disch := (first | omega | (simp only [go_sem]; try omega))) only [go_sem, Nat.reduceAdd, Nat.reduceEqDiff, Nat.reduceLeDiff, Nat.reduceMul, Nat.reduceLT, reduceIte, Int.reduceToNat, w64_id, cast_succ]
  repeat (first | (with_reducible first | refine SW.seq ?_ | refine SW.block ?_ | refine SW.rowC ?_ | refine SW.skip ?_ | refine SW.exit ?_ | intro _ | refine And.intro (by omega) ?_) | simp (config := { maxSteps := 1000000 }) (disch := (first | omega | (simp only [go_sem]; try omega))) only [go_sem, Nat.reduceAdd, Nat.reduceEqDiff, Nat.reduceLeDiff, Nat.reduceMul, Nat.reduceLT, reduceIte, Int.reduceToNat, w64_id, cast_succ, ha])
  refine SW.loopE (fun E0 H0 q E' H' => ∃ (pre post : List α), xs = pre ++ post ∧ q = post.length ∧ E' = aput E0 8 (I pre.length) ∧ H' = H0 ∧ ∀ x ∈ pre, p x = false) xs.length ⟨[], xs, rfl, rfl, rfl, rfl, by simp⟩ ?_
  rintro q E' H' ⟨pre, post, hpp, rfl, rfl, rfl, hn⟩
  simp (config := { maxSteps := 1000000 }) (disch := (first | omega | (simp only [go_sem]; try omega))) only [go_sem, Nat.reduceAdd, Nat.reduceEqDiff, Nat.reduceLeDiff, Nat.reduceMul, Nat.reduceLT, reduceIte, Int.reduceToNat, w64_id, cast_succ]
  repeat (first | (with_reducible first | refine SW.seq ?_ | refine SW.block ?_ | refine SW.rowC ?_ | refine SW.skip ?_ | refine SW.exit ?_ | intro _ | refine And.intro (by omega) ?_) | simp (config := { maxSteps := 1000000 }) (disch := (first | omega | (simp only [go_sem]; try omega))) only [go_sem, Nat.reduceAdd, Nat.reduceEqDiff, Nat.reduceLeDiff, Nat.reduceMul, Nat.reduceLT, reduceIte, Int.reduceToNat, w64_id, cast_succ])
  (first | refine SW.condD rfl (fun h => ?_) (fun h => ?_) | refine SW.condN rfl (fun h => ?_) (fun h => ?_) | refine SW.condNB rfl (fun h => ?_) (fun h => ?_) | refine SW.condB rfl (fun h => ?_) (fun h => ?_))
  · cases post with
    | nil => exfalso; simp at hpp; subst hpp; omega
    | cons x post =>
      have hgx : (xs.map enc)[pre.length]? = some (enc x) := by subst hpp; simp
      repeat (first | (with_reducible first | refine SW.seq ?_ | refine SW.block ?_ | refine SW.rowC ?_ | refine SW.skip ?_ | refine SW.exit ?_ | intro _ | refine And.intro (by omega) ?_) | simp (config := { maxSteps := 1000000 }) (disch := (first | omega | (simp only [go_sem]; try omega))) only [go_sem, Nat.reduceAdd, Nat.reduceEqDiff, Nat.reduceLeDiff, Nat.reduceMul, Nat.reduceLT, reduceIte, Int.reduceToNat, w64_id, cast_succ, ha, hgx, hg])
      refine ACalls.fn (hp x (by subst hpp; simp)) ?_
      repeat (first | (with_reducible first | refine SW.seq ?_ | refine SW.block ?_ | refine SW.rowC ?_ | refine SW.skip ?_ | refine SW.exit ?_ | intro _ | refine And.intro (by omega) ?_) | simp (config := { maxSteps := 1000000 }) (disch := (first | omega | (simp only [go_sem]; try omega))) only [go_sem, Nat.reduceAdd, Nat.reduceEqDiff, Nat.reduceLeDiff, Nat.reduceMul, Nat.reduceLT, reduceIte, Int.reduceToNat, w64_id, cast_succ])
      (first | refine SW.condD rfl (fun h2 => ?_) (fun h2 => ?_) | refine SW.condN rfl (fun h2 => ?_) (fun h2 => ?_) | refine SW.condNB rfl (fun h2 => ?_) (fun h2 => ?_) | refine SW.condB rfl (fun h2 => ?_) (fun h2 => ?_))
      · repeat (first | (with_reducible first | refine SW.seq ?_ | refine SW.block ?_ | refine SW.rowC ?_ | refine SW.skip ?_ | refine SW.exit ?_ | intro _ | refine And.intro (by omega) ?_) | simp (config := { maxSteps := 1000000 }) (disch := (first | omega | (simp only [go_sem]; try omega))) only [go_sem, Nat.reduceAdd, Nat.reduceEqDiff, Nat.reduceLeDiff, Nat.reduceMul, Nat.reduceLT, reduceIte, Int.reduceToNat, w64_id, cast_succ])
        refine SW.ret ?_; (try simp only [go_sem]); (first | refine FunPost.one ?_ | refine FunPost.two ?_ | refine FunPost.three ?_); (try simp (config := { maxSteps := 1000000 }) (disch := (first | omega | (simp only [go_sem]; try omega))) only [go_sem, Nat.reduceAdd, Nat.reduceEqDiff, Nat.reduceLeDiff, Nat.reduceMul, Nat.reduceLT, reduceIte, Int.reduceToNat, w64_id, cast_succ]); (first | (with_reducible refine GR.drop ?_ ?_; (simp only [go_sem, and_self, and_true, true_and, implies_true, List.take_succ_cons, List.take_zero])) | refine GR.of ?_); refine ⟨?_, rfl⟩; (try with_reducible rfl)
        exact ⟨_, rfl, by subst hpp; simp [h2]⟩
      · repeat (first | (with_reducible first | refine SW.seq ?_ | refine SW.block ?_ | refine SW.rowC ?_ | refine SW.skip ?_ | refine SW.exit ?_ | intro _ | refine And.intro (by omega) ?_) | simp (config := { maxSteps := 1000000 }) (disch := (first | omega | (simp only [go_sem]; try omega))) only [go_sem, Nat.reduceAdd, Nat.reduceEqDiff, Nat.reduceLeDiff, Nat.reduceMul, Nat.reduceLT, reduceIte, Int.reduceToNat, w64_id, cast_succ])
        refine SLoop.next post.length (by simp) ⟨pre ++ [x], post, by simp [hpp], rfl, ?_, rfl, ?_⟩
        · simp [go_sem]
        · intro y hy
          rcases List.mem_append.1 hy with hy | hy
          · exact hn y hy
          · simp at hy; subst hy; exact h2
  · repeat (first | (with_reducible first | refine SW.seq ?_ | refine SW.block ?_ | refine SW.rowC ?_ | refine SW.skip ?_ | refine SW.exit ?_ | intro _ | refine And.intro (by omega) ?_) | simp (config := { maxSteps := 1000000 }) (disch := (first | omega | (simp only [go_sem]; try omega))) only [go_sem, Nat.reduceAdd, Nat.reduceEqDiff, Nat.reduceLeDiff, Nat.reduceMul, Nat.reduceLT, reduceIte, Int.reduceToNat, w64_id, cast_succ])
    refine SW.ret ?_; (try simp only [go_sem]); (first | refine FunPost.one ?_ | refine FunPost.two ?_ | refine FunPost.three ?_); (try simp (config := { maxSteps := 1000000 }) (disch := (first | omega | (simp only [go_sem]; try omega))) only [go_sem, Nat.reduceAdd, Nat.reduceEqDiff, Nat.reduceLeDiff, Nat.reduceMul, Nat.reduceLT, reduceIte, Int.reduceToNat, w64_id, cast_succ]); (first | (with_reducible refine GR.drop ?_ ?_; (simp only [go_sem, and_self, and_true, true_and, implies_true, List.take_succ_cons, List.take_zero])) | refine GR.of ?_); refine ⟨?_, rfl⟩; (try with_reducible rfl)
    have : post = [] := by cases post with
      | nil => rfl
      | cons x post => exfalso; subst hpp; simp at h; omega
    subst this
    refine ⟨-1, rfl, ?_⟩
    simp at hpp; subst hpp
    simp; intro x hx; exact hn x hx
theorem conSS_ok {α : Type} (enc : α → AV) (H : List Blk) (a : AV) (xs : List α) (ha : aview H a = some (xs.length, xs.map enc))
    (g : Nat) (cs : List AV) (hg : callable Try.prog g = true) (p : α → Bool) (hp : ∀ x ∈ xs, ACalls Try.prog g (enc x :: cs) H (fun r H' => r = Bv (p x) ∧ H' = H)) :
    ACalls Try.prog f_slices_ContainsFunc_LLint64_Lint64 [a, .fn g cs] H (fun r H' => r = Bv (xs.any p) ∧ H' = H) := by
  refine ACalls.introB s_slices_ContainsFunc_LLint64_Lint64 (by simp) ?_; intro hB hA; unfold c_slices_ContainsFunc_LLint64_Lint64; simp (config := { maxSteps := 1000000 }) (disch := (first | omega | (simp only [go_sem]; try omega))) only [go_sem, Nat.reduceAdd, Nat.reduceEqDiff, Nat.reduceLeDiff, Nat.reduceMul, Nat.reduceLT, reduceIte, Int.reduceToNat, w64_id, cast_succ]
  repeat (first | (with_reducible first | refine SW.seq ?_ | refine SW.block ?_ | refine SW.rowC ?_ | refine SW.skip ?_ | refine SW.exit ?_ | intro _ | refine And.intro (by omega) ?_) | simp (config := { maxSteps := 1000000 }) (disch := (first | omega | (simp only [go_sem]; try omega))) only [go_sem, Nat.reduceAdd, Nat.reduceEqDiff, Nat.reduceLeDiff, Nat.reduceMul, Nat.reduceLT, reduceIte, Int.reduceToNat, w64_id, cast_succ])
  refine (idxSS_ok s_slices_IndexFunc_LLint64_Lint64 enc H a xs ha g cs hg p hp).mono ?_
  rintro r H' ⟨⟨i, rfl, hi⟩, rfl⟩
  simp (config := { maxSteps := 1000000 }) (disch := (first | omega | (simp only [go_sem]; try omega))) only [go_sem, Nat.reduceAdd, Nat.reduceEqDiff, Nat.reduceLeDiff, Nat.reduceMul, Nat.reduceLT, reduceIte, Int.reduceToNat, w64_id, cast_succ]
  repeat (first | (with_reducible first | refine SW.seq ?_ | refine SW.block ?_ | refine SW.rowC ?_ | refine SW.skip ?_ | refine SW.exit ?_ | intro _ | refine And.intro (by omega) ?_) | simp (config := { maxSteps := 1000000 }) (disch := (first | omega | (simp only [go_sem]; try omega))) only [go_sem, Nat.reduceAdd, Nat.reduceEqDiff, Nat.reduceLeDiff, Nat.reduceMul, Nat.reduceLT, reduceIte, Int.reduceToNat, w64_id, cast_succ])
  refine SW.ret ?_; (try simp only [go_sem]); (first | refine FunPost.one ?_ | refine FunPost.two ?_ | refine FunPost.three ?_); (try simp (config := { maxSteps := 1000000 }) (disch := (first | omega | (simp only [go_sem]; try omega))) only [go_sem, Nat.reduceAdd, Nat.reduceEqDiff, Nat.reduceLeDiff, Nat.reduceMul, Nat.reduceLT, reduceIte, Int.reduceToNat, w64_id, cast_succ]); (first | (with_reducible refine GR.drop ?_ ?_; (simp only [go_sem, and_self, and_true, true_and, implies_true, List.take_succ_cons, List.take_zero])) | refine GR.of ?_); refine ⟨?_, rfl⟩; (try with_reducible rfl)
  refine congrArg Bv ?_
  rw [Bool.eq_iff_iff, decide_eq_true_eq, hi]
end Go.Proofs.Ytflnjgeoegofdaa
