/- The least image of a moved system: the law. -/
import Derived.Test.YthogadbnddmkdaaGreatProg
import Derived.KernelRfl
import Derived.Test.YthogadbnddmkdaaGreatzSE
import Derived.Test.YthogadbnddmkdaaGreatzJ1
import Derived.Test.YthogadbnddmkdaaGreatzK2
import Derived.Test.YthogadbnddmkdaaGreatzL1
set_option linter.unusedSimpArgs false
set_option linter.unusedVariables false
set_option maxHeartbeats 4000000
set_option maxRecDepth 100000
namespace Go.Proofs.YthogadbnddmkdaaGreat
open Go.Av
abbrev f_spec_l00From : Nat := 32
def c_spec_l00From : SC :=
 .seq (.reg [
     ⟨(some 2), .mv (.const (.pointer none)), none⟩] [0])
 (.seq (.reg [
     ⟨(some 3), .mv (.tmp 0), none⟩,
     ⟨(some 4), .build [(.slice none 0 0), (.int .i64 0), (.int .u64 0)] [(0, 1, (.tmp 3))], none⟩,
     ⟨(some 5), .box 111 (.tmp 4), none⟩,
     ⟨(some 2), .mv (.tmp 5), none⟩] [2])
 (.ret))
theorem s_spec_l00From : stripF Tryz.prog 32 [[0], [2]] = some (c_spec_l00From, [.tmp 2], 6) := by kernel_rfl
theorem implLeastP (v : Int) (bs : List (List Int)) (hl : bs.length ≤ 2000000) : PFn Tryz.prog f_impl_LeastSystem [I v, ilSS bs] (.tup [ilSS (leastV v bs).1, I (leastV v bs).2]) := by
  intro H
  refine (implLeast_fss v bs hl H).gr ?_
  rintro r H' ⟨ext, u, rfl, rfl, ho⟩
  exact GR.froz (froz_tup2 (ho.froz (fun i hi => hi.1)) (froz_I' _)) ⟨rfl, rfl⟩
theorem l00From_ok (H : List Blk) (ns : List Int) : ACalls Tryz.prog f_spec_l00From [ilY ns] H (fun r H' => r = .pc H.length 0 0 ∧ H' = H ++ [srcB (ilY ns) 0 0]) := by
  refine ACalls.introB s_spec_l00From (by simp) ?_; intro hB hA; unfold c_spec_l00From; simp (config := { maxSteps := 1000000 }) (disch := (first | omega | (simp only [go_sem]; try omega))) only [go_sem, Nat.reduceAdd, Nat.reduceEqDiff, Nat.reduceLeDiff, Nat.reduceMul, Nat.reduceLT, reduceIte, Int.reduceToNat, w64_id, cast_succ]
  repeat (first | (with_reducible first | refine SW.seq ?_ | refine SW.block ?_ | refine SW.rowC ?_ | refine SW.skip ?_ | refine SW.exit ?_ | intro _ | refine And.intro (by omega) ?_) | simp (config := { maxSteps := 1000000 }) (disch := (first | omega | (simp only [go_sem]; try omega))) only [go_sem, Nat.reduceAdd, Nat.reduceEqDiff, Nat.reduceLeDiff, Nat.reduceMul, Nat.reduceLT, reduceIte, Int.reduceToNat, w64_id, cast_succ])
  refine ⟨rfl, ?_⟩
  refine SW.ret ?_; (try simp only [go_sem]); (first | refine FunPost.one ?_ | refine FunPost.two ?_ | refine FunPost.three ?_); (try simp (config := { maxSteps := 1000000 }) (disch := (first | omega | (simp only [go_sem]; try omega))) only [go_sem, Nat.reduceAdd, Nat.reduceEqDiff, Nat.reduceLeDiff, Nat.reduceMul, Nat.reduceLT, reduceIte, Int.reduceToNat, w64_id, cast_succ])
  exact GR.of ⟨rfl, rfl⟩
end Go.Proofs.YthogadbnddmkdaaGreat
