/- The law of ValidSystem. -/
import Derived.Test.YtogapbapbmhdfaaProg
import Derived.KernelRfl
import Derived.Test.YtogapbapbmhdfaazK3
import Derived.Test.YtogapbapbmhdfaazL7
import Derived.Test.YtogapbapbmhdfaazK1
set_option linter.unusedSimpArgs false
set_option linter.unusedVariables false
set_option maxHeartbeats 4000000
set_option maxRecDepth 100000
namespace Go.Proofs.Ytogapbapbmhdfaa
open Go.Av
abbrev f_spec_ValidSystem : Nat := 12
def c_spec_ValidSystem : SC :=
 .seq (.reg [
     ⟨(some 4), .mv (.const (.bool false)), none⟩] [0, 1])
 (.seq (.reg [
     ⟨(some 5), .mv (.tmp 0), none⟩,
     ⟨(some 6), .mv (.tmp 1), none⟩,
     ⟨(some 7), .call 38 [(.tmp 5), (.tmp 6)], none⟩,
     ⟨(some 4), .mv (.tmp 7), none⟩] [4])
 (.ret))
theorem s_spec_ValidSystem : stripF Try.prog 12 [[0, 1], [4]] = some (c_spec_ValidSystem, [.tmp 4], 8) := by kernel_rfl
theorem specValidSystem_fn (v : Int) (xss : List (List Int)) (hx : ∀ xs ∈ xss, ∀ x ∈ xs, (Lit.int .i64 x).wf = true) : PFn Try.prog f_spec_ValidSystem [I v, ilSS xss] (Bv (systemOk v xss)) := by
  intro H; refine ACalls.introB s_spec_ValidSystem (by simp) ?_; intro hB hA; unfold c_spec_ValidSystem; simp (config := { maxSteps := 1000000 }) (disch := (first | omega | (simp only [go_sem]; try omega))) only [go_sem, Nat.reduceAdd, Nat.reduceEqDiff, Nat.reduceLeDiff, Nat.reduceMul, Nat.reduceLT, reduceIte, Int.reduceToNat, w64_id, cast_succ]
  repeat (first | (with_reducible first | refine SW.seq ?_ | refine SW.block ?_ | refine SW.rowC ?_ | refine SW.skip ?_ | refine SW.exit ?_ | refine PFn.use (l27Ok_fn v xss hx) ?_ | refine PFn.useq (l27Ok_fn v xss hx) ?_ | intro _ | refine And.intro (by omega) ?_) | simp (config := { maxSteps := 1000000 }) (disch := (first | omega | (simp only [go_sem]; try omega))) only [go_sem, Nat.reduceAdd, Nat.reduceEqDiff, Nat.reduceLeDiff, Nat.reduceMul, Nat.reduceLT, reduceIte, Int.reduceToNat, w64_id, cast_succ])
  refine SW.ret ?_; (try simp only [go_sem]); (first | refine FunPost.one ?_ | refine FunPost.two ?_ | refine FunPost.three ?_); (try simp (config := { maxSteps := 1000000 }) (disch := (first | omega | (simp only [go_sem]; try omega))) only [go_sem, Nat.reduceAdd, Nat.reduceEqDiff, Nat.reduceLeDiff, Nat.reduceMul, Nat.reduceLT, reduceIte, Int.reduceToNat, w64_id, cast_succ]); (first | (with_reducible refine GR.drop ?_ ?_; (simp only [go_sem, and_self, and_true, true_and, implies_true, List.take_succ_cons, List.take_zero])) | refine GR.of ?_); refine ⟨?_, rfl⟩; (try with_reducible rfl)
end Go.Proofs.Ytogapbapbmhdfaa
