/- Copies of rows by the library. -/
import Derived.Test.YthogadbnddmkdaaProg
import Derived.KernelRfl
import Derived.Test.YthogadbnddmkdaazSJ
set_option linter.unusedSimpArgs false
set_option linter.unusedVariables false
set_option maxHeartbeats 4000000
set_option maxRecDepth 100000
namespace Go.Proofs.Ythogadbnddmkdaa
open Go.Av
abbrev f_slices_Clone_LLint64_Lint64 : Nat := 93
def c_slices_Clone_LLint64_Lint64 : SC :=
 .seq (.reg [
     ⟨(some 2), .mv (.const (.slice none 0 0)), none⟩] [0])
 (.seq (.seq (.reg [
     ⟨(some 3), .mv (.tmp 0), none⟩,
     ⟨(some 4), .isnil false (.tmp 3), none⟩] [0, 4])
 (.cond (.tmp 4)
  (.seq (.reg [
      ⟨(some 2), .mv (.const (.slice none 0 0)), none⟩] [2])
  (.ret))
  (.skip)))
 (.seq (.reg [
     ⟨(some 5), .bslice 39 1 0 [] [], none⟩,
     ⟨(some 6), .mv (.tmp 0), none⟩,
     ⟨(some 7), .app 39 1 24 (.tmp 5) (.tmp 6), none⟩,
     ⟨(some 2), .mv (.tmp 7), none⟩] [2])
 (.ret)))
theorem s_slices_Clone_LLint64_Lint64 : stripF Try.prog 93 [[0], [0, 4], [2], [2]] = some (c_slices_Clone_LLint64_Lint64, [.tmp 2], 8) := by kernel_rfl
theorem cloneSS_ok {p : Nat} (H : List Blk) (a : AV) (B : List (List Int)) (ha : ArgR p H a B) (hl : B.length ≤ 2000000) :
    ACalls Try.prog f_slices_Clone_LLint64_Lint64 [a] H (fun r H' => ∃ ver, r = .nm H.length ver 0 B.length ∧ H' = H ++ [⟨ver, tyLL, 1, B.map ilS⟩]) := by
  have hav := ha.view
  refine ACalls.introB s_slices_Clone_LLint64_Lint64 (by simp) ?_; intro hB hA; unfold c_slices_Clone_LLint64_Lint64; simp (config := { maxSteps := 1000000 }) (disch := (first | omega | (simp only [go_sem]; try omega))) only [go_sem, Nat.reduceAdd, Nat.reduceEqDiff, Nat.reduceLeDiff, Nat.reduceMul, Nat.reduceLT, reduceIte, Int.reduceToNat, w64_id, cast_succ]
  have h2 := (ha.app [⟨0, tyLL, 1, []⟩]).view
  refine SW.seq ?_; refine SW.rowC ?_; simp (config := { maxSteps := 1000000 }) (disch := (first | omega | (simp only [go_sem]; try omega))) only [go_sem, Nat.reduceAdd, Nat.reduceEqDiff, Nat.reduceLeDiff, Nat.reduceMul, Nat.reduceLT, reduceIte, Int.reduceToNat, w64_id, cast_succ]
  refine SW.seq ?_
  refine SW.seq ?_; refine SW.rowC ?_; simp (config := { maxSteps := 1000000 }) (disch := (first | omega | (simp only [go_sem]; try omega))) only [go_sem, Nat.reduceAdd, Nat.reduceEqDiff, Nat.reduceLeDiff, Nat.reduceMul, Nat.reduceLT, reduceIte, Int.reduceToNat, w64_id, cast_succ, hav]
  intro b hb
  refine SW.condB rfl (fun h => ?_) (fun h => ?_)
  · have : B = [] := List.eq_nil_of_length_eq_zero (hb h)
    subst this
    repeat (first | (with_reducible first | refine SW.seq ?_ | refine SW.block ?_ | refine SW.rowC ?_ | refine SW.skip ?_ | refine SW.exit ?_ | intro _ | refine And.intro (by omega) ?_) | simp (config := { maxSteps := 1000000 }) (disch := (first | omega | (simp only [go_sem]; try omega))) only [go_sem, Nat.reduceAdd, Nat.reduceEqDiff, Nat.reduceLeDiff, Nat.reduceMul, Nat.reduceLT, reduceIte, Int.reduceToNat, w64_id, cast_succ])
    refine SW.ret ?_; (try simp only [go_sem]); (first | refine FunPost.one ?_ | refine FunPost.two ?_ | refine FunPost.three ?_); (try simp (config := { maxSteps := 1000000 }) (disch := (first | omega | (simp only [go_sem]; try omega))) only [go_sem, Nat.reduceAdd, Nat.reduceEqDiff, Nat.reduceLeDiff, Nat.reduceMul, Nat.reduceLT, reduceIte, Int.reduceToNat, w64_id, cast_succ])
    refine GR.name tyLL 1 (GR.of ?_)
    exact ⟨0, rfl, rfl⟩
  · repeat (first | (with_reducible first | refine SW.seq ?_ | refine SW.block ?_ | refine SW.rowC ?_ | refine SW.skip ?_ | refine SW.exit ?_ | intro _ | refine And.intro (by omega) ?_) | simp (config := { maxSteps := 1000000 }) (disch := (first | omega | (simp only [go_sem]; try omega))) only [go_sem, Nat.reduceAdd, Nat.reduceEqDiff, Nat.reduceLeDiff, Nat.reduceMul, Nat.reduceLT, reduceIte, Int.reduceToNat, w64_id, cast_succ, hav, h2])
    refine SW.ret ?_; (try simp only [go_sem]); (first | refine FunPost.one ?_ | refine FunPost.two ?_ | refine FunPost.three ?_); (try simp (config := { maxSteps := 1000000 }) (disch := (first | omega | (simp only [go_sem]; try omega))) only [go_sem, Nat.reduceAdd, Nat.reduceEqDiff, Nat.reduceLeDiff, Nat.reduceMul, Nat.reduceLT, reduceIte, Int.reduceToNat, w64_id, cast_succ])
    exact GR.of ⟨1, rfl, rfl⟩
end Go.Proofs.Ythogadbnddmkdaa
