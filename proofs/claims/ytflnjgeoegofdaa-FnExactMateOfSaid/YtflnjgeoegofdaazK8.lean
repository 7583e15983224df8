/- Subsets in order: ranks, the next one, all of them. -/
import Derived.Test.YtflnjgeoegofdaaProg
import Derived.KernelRfl
import Derived.Test.YtflnjgeoegofdaazK6
set_option linter.unusedSimpArgs false
set_option linter.unusedVariables false
set_option maxHeartbeats 4000000
set_option maxRecDepth 100000
namespace Go.Proofs.Ytflnjgeoegofdaa
open Go.Av
abbrev f_slices_Clone_Lint64_int64 : Nat := 38
def c_slices_Clone_Lint64_int64 : SC :=
 .seq (.reg [
     ⟨(some 2), .mv (.const (.slice none 0 0)), none⟩] [0])
 (.seq (.seq (.reg [
     ⟨(some 3), .mv (.tmp 0), none⟩,
     ⟨(some 4), .isnil false (.tmp 3), none⟩] [0, 4])
 (.cond (.tmp 4)
  (.seq (.reg [
      ⟨(some 2), .mv (.const (.slice none 0 0)), none⟩] [2])
  (.ret))
  (.skip)))
 (.seq (.reg [
     ⟨(some 5), .bslice 2 1 0 [] [], none⟩,
     ⟨(some 6), .mv (.tmp 0), none⟩,
     ⟨(some 7), .app 2 1 8 (.tmp 5) (.tmp 6), none⟩,
     ⟨(some 2), .mv (.tmp 7), none⟩] [2])
 (.ret)))
theorem s_slices_Clone_Lint64_int64 : stripF Try.prog 38 [[0], [0, 4], [2], [2]] = some (c_slices_Clone_Lint64_int64, [.tmp 2], 8) := by kernel_rfl
theorem _root_.Go.Av.GR.froz0 {H0 : List Blk} {R : AV → List Blk → Prop} {r r' : AV} (hf : Froz H0 H0.length r r') (h : R r' H0) : GR H0 R r H0 := by
  have := GR.froz (H0 := H0) (ext := []) (R := R) (by simpa using hf) h
  simpa using this
def tab (n : Nat) (f : Nat → Int) : List Int := (List.range n).map f
theorem tab_length (n : Nat) (f : Nat → Int) : (tab n f).length = n := by simp [tab]
theorem clone_ok (H : List Blk) (a : AV) (xs : List Int) (ha : RdS H a xs) (hl : xs.length ≤ 1073741824) :
    ACalls Try.prog f_slices_Clone_Lint64_int64 [a] H (fun r H' => ∃ ver, r = .nm H.length ver 0 xs.length ∧ H' = H ++ [⟨ver, 2, 1, xs.map I⟩]) := by
  refine ACalls.introB s_slices_Clone_Lint64_int64 (by simp) ?_; intro hB hA; unfold c_slices_Clone_Lint64_int64; simp (config := { maxSteps := 1000000 }) (disch := (first | omega | (simp only [go_sem]; try omega))) only [go_sem, Nat.reduceAdd, Nat.reduceEqDiff, Nat.reduceLeDiff, Nat.reduceMul, Nat.reduceLT, reduceIte, Int.reduceToNat, w64_id, cast_succ]
  have h2 := aview_append ha [⟨0, 2, 1, []⟩]
  refine SW.seq ?_; refine SW.rowC ?_; simp (config := { maxSteps := 1000000 }) (disch := (first | omega | (simp only [go_sem]; try omega))) only [go_sem, Nat.reduceAdd, Nat.reduceEqDiff, Nat.reduceLeDiff, Nat.reduceMul, Nat.reduceLT, reduceIte, Int.reduceToNat, w64_id, cast_succ]
  refine SW.seq ?_
  refine SW.seq ?_; refine SW.rowC ?_; simp (config := { maxSteps := 1000000 }) (disch := (first | omega | (simp only [go_sem]; try omega))) only [go_sem, Nat.reduceAdd, Nat.reduceEqDiff, Nat.reduceLeDiff, Nat.reduceMul, Nat.reduceLT, reduceIte, Int.reduceToNat, w64_id, cast_succ, ha]
  intro b hb
  refine SW.condB rfl (fun h => ?_) (fun h => ?_)
  · have : xs = [] := List.eq_nil_of_length_eq_zero (hb h)
    subst this
    repeat (first | (with_reducible first | refine SW.seq ?_ | refine SW.block ?_ | refine SW.rowC ?_ | refine SW.skip ?_ | refine SW.exit ?_ | intro _ | refine And.intro (by omega) ?_) | simp (config := { maxSteps := 1000000 }) (disch := (first | omega | (simp only [go_sem]; try omega))) only [go_sem, Nat.reduceAdd, Nat.reduceEqDiff, Nat.reduceLeDiff, Nat.reduceMul, Nat.reduceLT, reduceIte, Int.reduceToNat, w64_id, cast_succ])
    refine SW.ret ?_; (try simp only [go_sem]); (first | refine FunPost.one ?_ | refine FunPost.two ?_ | refine FunPost.three ?_); (try simp (config := { maxSteps := 1000000 }) (disch := (first | omega | (simp only [go_sem]; try omega))) only [go_sem, Nat.reduceAdd, Nat.reduceEqDiff, Nat.reduceLeDiff, Nat.reduceMul, Nat.reduceLT, reduceIte, Int.reduceToNat, w64_id, cast_succ])
    refine GR.name 2 1 (GR.of ?_)
    exact ⟨0, rfl, rfl⟩
  · repeat (first | (with_reducible first | refine SW.seq ?_ | refine SW.block ?_ | refine SW.rowC ?_ | refine SW.skip ?_ | refine SW.exit ?_ | intro _ | refine And.intro (by omega) ?_) | simp (config := { maxSteps := 1000000 }) (disch := (first | omega | (simp only [go_sem]; try omega))) only [go_sem, Nat.reduceAdd, Nat.reduceEqDiff, Nat.reduceLeDiff, Nat.reduceMul, Nat.reduceLT, reduceIte, Int.reduceToNat, w64_id, cast_succ, ha, h2])
    refine SW.ret ?_; (try simp only [go_sem]); (first | refine FunPost.one ?_ | refine FunPost.two ?_ | refine FunPost.three ?_); (try simp (config := { maxSteps := 1000000 }) (disch := (first | omega | (simp only [go_sem]; try omega))) only [go_sem, Nat.reduceAdd, Nat.reduceEqDiff, Nat.reduceLeDiff, Nat.reduceMul, Nat.reduceLT, reduceIte, Int.reduceToNat, w64_id, cast_succ])
    exact GR.of ⟨1, rfl, rfl⟩
end Go.Proofs.Ytflnjgeoegofdaa
