/- Squares that are valid: the program. -/
import Derived.Test.YtflnjgeoegofdaaProg
import Derived.KernelRfl
import Derived.Test.YtflnjgeoegofdaazQ2
import Derived.Test.YtflnjgeoegofdaazK2
set_option linter.unusedSimpArgs false
set_option linter.unusedVariables false
set_option maxHeartbeats 4000000
set_option maxRecDepth 100000
namespace Go.Proofs.Ytflnjgeoegofdaa
open Go.Av
abbrev f_impl_arePermutations_c1 : Nat := 36
def c_impl_arePermutations_c1 : SC :=
 .seq (.reg [
     ⟨(some 3), .mv (.const (.bool false)), none⟩] [0, 1])
 (.seq (.reg [
     ⟨(some 4), .mv (.tmp 0), none⟩,
     ⟨(some 5), .qcall 37 [(.tmp 4)], none⟩,
     ⟨(some 6), .load 1 false (.tmp 1), none⟩,
     ⟨(some 7), .bin .neq (.tmp 5) (.tmp 6), none⟩,
     ⟨(some 8), .mv (.tmp 7), none⟩,
     ⟨(some 9), .mv (.tmp 0), (some (8, false))⟩,
     ⟨(some 10), .qcall 32 [(.tmp 9)], (some (8, false))⟩,
     ⟨(some 11), .un .not (.tmp 10), (some (8, false))⟩,
     ⟨(some 12), .pick (.tmp 8) (.const (.bool true)) (.tmp 11), none⟩,
     ⟨(some 3), .mv (.tmp 12), none⟩] [3])
 (.ret))
theorem s_impl_arePermutations_c1 : stripF Try.prog 36 [[0, 1], [3]] = some (c_impl_arePermutations_c1, [.tmp 3], 13) := by kernel_rfl
theorem arePerm_call : callable Try.prog f_impl_arePermutations_c1 = true := by kernel_rfl
theorem arePerm_c (H : List Blk) (q ty : Nat) (n : Int) (x : List Int) (hx : x.length ≤ 2000000) (hq : H[q]? = some ⟨0, ty, 1, [I n]⟩) :
    ACalls Try.prog f_impl_arePermutations_c1 [ilS x, .pc q 0 0] H (fun r H' => r = Bv (!(decide ((x.length : Int) = n) && permB x)) ∧ H' = H) := by
  have hv := ValidPermutation_fn x hx
  refine ACalls.introB s_impl_arePermutations_c1 (by simp) ?_; intro hB hA; unfold c_impl_arePermutations_c1; simp (config := { maxSteps := 1000000 }) (disch := (first | omega | (simp only [go_sem]; try omega))) only [go_sem, Nat.reduceAdd, Nat.reduceEqDiff, Nat.reduceLeDiff, Nat.reduceMul, Nat.reduceLT, reduceIte, Int.reduceToNat, w64_id, cast_succ]
  by_cases h1 : (x.length : Int) = n
  · have d1 : decide ((x.length : Int) = n) = true := decide_eq_true h1
    repeat (first | (with_reducible first | refine SW.seq ?_ | refine SW.block ?_ | refine SW.rowC ?_ | refine SW.skip ?_ | refine SW.exit ?_ | refine PFn.use (size_fn x) ?_ | refine PFn.useq (size_fn x) ?_ | refine PFn.use (hv) ?_ | refine PFn.useq (hv) ?_ | intro _ | refine And.intro (by omega) ?_) | simp (config := { maxSteps := 1000000 }) (disch := (first | omega | (simp only [go_sem]; try omega))) only [go_sem, Nat.reduceAdd, Nat.reduceEqDiff, Nat.reduceLeDiff, Nat.reduceMul, Nat.reduceLT, reduceIte, Int.reduceToNat, w64_id, cast_succ, pc_alive hq, pc_ld hq, d1])
    refine SW.ret ?_; (try simp only [go_sem]); (first | refine FunPost.one ?_ | refine FunPost.two ?_ | refine FunPost.three ?_); (try simp (config := { maxSteps := 1000000 }) (disch := (first | omega | (simp only [go_sem]; try omega))) only [go_sem, Nat.reduceAdd, Nat.reduceEqDiff, Nat.reduceLeDiff, Nat.reduceMul, Nat.reduceLT, reduceIte, Int.reduceToNat, w64_id, cast_succ]); (first | (with_reducible refine GR.drop ?_ ?_; (simp only [go_sem, and_self, and_true, true_and, implies_true, List.take_succ_cons, List.take_zero])) | refine GR.of ?_); refine ⟨?_, rfl⟩; (try with_reducible rfl)
  · have d1 : decide ((x.length : Int) = n) = false := decide_eq_false h1
    repeat (first | (with_reducible first | refine SW.seq ?_ | refine SW.block ?_ | refine SW.rowC ?_ | refine SW.skip ?_ | refine SW.exit ?_ | refine PFn.use (size_fn x) ?_ | refine PFn.useq (size_fn x) ?_ | refine PFn.use (hv) ?_ | refine PFn.useq (hv) ?_ | intro _ | refine And.intro (by omega) ?_) | simp (config := { maxSteps := 1000000 }) (disch := (first | omega | (simp only [go_sem]; try omega))) only [go_sem, Nat.reduceAdd, Nat.reduceEqDiff, Nat.reduceLeDiff, Nat.reduceMul, Nat.reduceLT, reduceIte, Int.reduceToNat, w64_id, cast_succ, pc_alive hq, pc_ld hq, d1])
    refine SW.ret ?_; (try simp only [go_sem]); (first | refine FunPost.one ?_ | refine FunPost.two ?_ | refine FunPost.three ?_); (try simp (config := { maxSteps := 1000000 }) (disch := (first | omega | (simp only [go_sem]; try omega))) only [go_sem, Nat.reduceAdd, Nat.reduceEqDiff, Nat.reduceLeDiff, Nat.reduceMul, Nat.reduceLT, reduceIte, Int.reduceToNat, w64_id, cast_succ]); (first | (with_reducible refine GR.drop ?_ ?_; (simp only [go_sem, and_self, and_true, true_and, implies_true, List.take_succ_cons, List.take_zero])) | refine GR.of ?_); refine ⟨?_, rfl⟩; (try with_reducible rfl)
theorem arePermutations_fn (n : Int) (xss : List (List Int)) (hl : ∀ x ∈ xss, x.length ≤ 2000000) : PFn Try.prog f_impl_arePermutations [I n, ilSS xss] (Bv (xss.all fun p => decide ((p.length : Int) = n) && permB p)) := by
  intro H; refine ACalls.introB s_impl_arePermutations (by simp) ?_; intro hB hA; unfold c_impl_arePermutations; simp (config := { maxSteps := 1000000 }) (disch := (first | omega | (simp only [go_sem]; try omega))) only [go_sem, Nat.reduceAdd, Nat.reduceEqDiff, Nat.reduceLeDiff, Nat.reduceMul, Nat.reduceLT, reduceIte, Int.reduceToNat, w64_id, cast_succ]
  repeat (first | (with_reducible first | refine SW.seq ?_ | refine SW.block ?_ | refine SW.rowC ?_ | refine SW.skip ?_ | refine SW.exit ?_ | intro _ | refine And.intro (by omega) ?_) | simp (config := { maxSteps := 1000000 }) (disch := (first | omega | (simp only [go_sem]; try omega))) only [go_sem, Nat.reduceAdd, Nat.reduceEqDiff, Nat.reduceLeDiff, Nat.reduceMul, Nat.reduceLT, reduceIte, Int.reduceToNat, w64_id, cast_succ])
  refine (conSS_ok ilS _ (ilSS xss) xss rfl f_impl_arePermutations_c1 [.pc H.length 0 0] arePerm_call (fun x => !(decide ((x.length : Int) = n) && permB x)) (fun x hx => arePerm_c _ H.length 2 n x (hl x hx) (by simp))).mono ?_
  rintro r H' ⟨rfl, rfl⟩
  repeat (first | (with_reducible first | refine SW.seq ?_ | refine SW.block ?_ | refine SW.rowC ?_ | refine SW.skip ?_ | refine SW.exit ?_ | intro _ | refine And.intro (by omega) ?_) | simp (config := { maxSteps := 1000000 }) (disch := (first | omega | (simp only [go_sem]; try omega))) only [go_sem, Nat.reduceAdd, Nat.reduceEqDiff, Nat.reduceLeDiff, Nat.reduceMul, Nat.reduceLT, reduceIte, Int.reduceToNat, w64_id, cast_succ])
  refine SW.ret ?_; (try simp only [go_sem]); (first | refine FunPost.one ?_ | refine FunPost.two ?_ | refine FunPost.three ?_); (try simp (config := { maxSteps := 1000000 }) (disch := (first | omega | (simp only [go_sem]; try omega))) only [go_sem, Nat.reduceAdd, Nat.reduceEqDiff, Nat.reduceLeDiff, Nat.reduceMul, Nat.reduceLT, reduceIte, Int.reduceToNat, w64_id, cast_succ]); (first | (with_reducible refine GR.drop ?_ ?_; (simp only [go_sem, and_self, and_true, true_and, implies_true, List.take_succ_cons, List.take_zero])) | refine GR.of ?_); refine ⟨?_, rfl⟩; (try with_reducible rfl)
  rw [List.any_eq_not_all_not]
  simp
end Go.Proofs.Ytflnjgeoegofdaa
