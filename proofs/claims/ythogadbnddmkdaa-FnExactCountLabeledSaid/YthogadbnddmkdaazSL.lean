/- Counting packings: what the program's recursion calls. -/
import Derived.Test.YthogadbnddmkdaaProg
import Derived.KernelRfl
import Derived.Test.YthogadbnddmkdaazSJ
set_option linter.unusedSimpArgs false
set_option linter.unusedVariables false
set_option maxHeartbeats 4000000
set_option maxRecDepth 100000
namespace Go.Proofs.Ythogadbnddmkdaa
open Go.Av
abbrev f_impl_labeler_count_c1 : Nat := 90
def c_impl_labeler_count_c1 : SC :=
 .seq (.reg [
     ⟨(some 4), .mv (.const (.bool false)), none⟩] [0, 1, 2])
 (.seq (.reg [
     ⟨(some 5), .mv (.tmp 0), none⟩,
     ⟨(some 6), .load 1 false (.tmp 1), none⟩,
     ⟨(some 7), .nilc (.tmp 6), none⟩,
     ⟨(some 8), .faddr 2 (.tmp 7), none⟩,
     ⟨(some 9), .load 1 false (.tmp 8), none⟩,
     ⟨(some 10), .load 1 false (.tmp 2), none⟩,
     ⟨(some 11), .iaddr 1 (.tmp 9) (.tmp 10), none⟩,
     ⟨(some 12), .load 1 false (.tmp 11), none⟩,
     ⟨(some 13), .qcall 91 [(.tmp 5), (.tmp 12)], none⟩,
     ⟨(some 14), .load 1 false (.tmp 1), none⟩,
     ⟨(some 15), .nilc (.tmp 14), none⟩,
     ⟨(some 16), .faddr 4 (.tmp 15), none⟩,
     ⟨(some 17), .load 1 false (.tmp 16), none⟩,
     ⟨(some 18), .bin .gtr (.tmp 13) (.tmp 17), none⟩,
     ⟨(some 4), .mv (.tmp 18), none⟩] [4])
 (.ret))
theorem s_impl_labeler_count_c1 : stripF Try.prog 90 [[0, 1, 2], [4]] = some (c_impl_labeler_count_c1, [.tmp 4], 19) := by kernel_rfl
abbrev f_impl_counter_node : Nat := 92
def c_impl_counter_node : SC :=
 .seq (.reg [
     ⟨(some 2), .mv (.const (.bool false)), none⟩] [0])
 (.seq (.seq (.reg [
     ⟨(some 3), .mv (.tmp 0), none⟩,
     ⟨(some 4), .nilc (.tmp 3), none⟩,
     ⟨(some 5), .faddr 0 (.tmp 4), none⟩,
     ⟨(some 6), .load 1 false (.tmp 5), none⟩,
     ⟨(some 7), .bin .eql (.tmp 6) (.const (.int .i64 0)), none⟩] [0, 7])
 (.cond (.tmp 7)
  (.seq (.reg [
      ⟨(some 8), .mv (.tmp 0), none⟩,
      ⟨(some 9), .nilc (.tmp 8), none⟩,
      ⟨(some 10), .faddr 1 (.tmp 9), none⟩,
      ⟨none, .store 1 (.tmp 10) (.const (.bool true)), none⟩] [])
  (.seq (.reg [
      ⟨(some 2), .mv (.const (.bool false)), none⟩] [2])
  (.ret)))
  (.skip)))
 (.seq (.reg [
     ⟨(some 11), .mv (.tmp 0), none⟩,
     ⟨(some 12), .nilc (.tmp 11), none⟩,
     ⟨(some 13), .faddr 0 (.tmp 12), none⟩,
     ⟨(some 14), .load 1 false (.tmp 13), none⟩,
     ⟨(some 15), .bin .sub (.tmp 14) (.const (.int .i64 1)), none⟩,
     ⟨(some 16), .nilc (.tmp 11), none⟩,
     ⟨(some 17), .faddr 0 (.tmp 16), none⟩,
     ⟨none, .store 1 (.tmp 17) (.tmp 15), none⟩] [])
 (.seq (.reg [
     ⟨(some 2), .mv (.const (.bool true)), none⟩] [2])
 (.ret))))
theorem s_impl_counter_node : stripF Try.prog 92 [[0], [0, 7], [], [2], [], [2]] = some (c_impl_counter_node, [.tmp 2], 18) := by kernel_rfl
abbrev tyLab : Nat := 70
def labB (left : Nat) (spent : Bool) (S : List (List Int)) (m : Nat) (s : Int) : Blk := ⟨0, tyLab, 1, [I left, Bv spent, ilSS S, I m, I s]⟩
theorem node_none (H : List Blk) (p : Nat) (S : List (List Int)) (m : Nat) (s : Int) (hp : H[p]? = some (labB 0 false S m s)) :
    ACalls Try.prog f_impl_counter_node [.pc p 0 0] H (fun r H' => r = Bv false ∧ H' = H.set p (labB 0 true S m s)) := by
  have hpa := fun o => pc_alive (off := o) hp
  have hpl := fun o => pc_ld (off := o) hp
  unfold labB at *
  have hst : ∀ x, astore H [x] (.pc p 0 1) = some (H.set p ⟨0, tyLab, 1, [I (0 : Nat), x, ilSS S, I m, I s]⟩) := fun x => by rw [pc_st hp (by simp)]; rfl
  refine ACalls.introB s_impl_counter_node (by simp) ?_; intro hB hA; unfold c_impl_counter_node; simp (config := { maxSteps := 1000000 }) (disch := (first | omega | (simp only [go_sem]; try omega))) only [go_sem, Nat.reduceAdd, Nat.reduceEqDiff, Nat.reduceLeDiff, Nat.reduceMul, Nat.reduceLT, reduceIte, Int.reduceToNat, w64_id, cast_succ]
  repeat (first | (with_reducible first | refine SW.seq ?_ | refine SW.block ?_ | refine SW.rowC ?_ | refine SW.skip ?_ | refine SW.exit ?_ | intro _ | refine And.intro (by omega) ?_) | simp (config := { maxSteps := 1000000 }) (disch := (first | omega | (simp only [go_sem]; try omega))) only [go_sem, Nat.reduceAdd, Nat.reduceEqDiff, Nat.reduceLeDiff, Nat.reduceMul, Nat.reduceLT, reduceIte, Int.reduceToNat, w64_id, cast_succ, hpa, hpl])
  refine SW.condT rfl ?_
  repeat (first | (with_reducible first | refine SW.seq ?_ | refine SW.block ?_ | refine SW.rowC ?_ | refine SW.skip ?_ | refine SW.exit ?_ | intro _ | refine And.intro (by omega) ?_) | simp (config := { maxSteps := 1000000 }) (disch := (first | omega | (simp only [go_sem]; try omega))) only [go_sem, Nat.reduceAdd, Nat.reduceEqDiff, Nat.reduceLeDiff, Nat.reduceMul, Nat.reduceLT, reduceIte, Int.reduceToNat, w64_id, cast_succ, hpa, hpl, hst])
  refine SW.ret ?_; (try simp only [go_sem]); (first | refine FunPost.one ?_ | refine FunPost.two ?_ | refine FunPost.three ?_); (try simp (config := { maxSteps := 1000000 }) (disch := (first | omega | (simp only [go_sem]; try omega))) only [go_sem, Nat.reduceAdd, Nat.reduceEqDiff, Nat.reduceLeDiff, Nat.reduceMul, Nat.reduceLT, reduceIte, Int.reduceToNat, w64_id, cast_succ])
  exact GR.of ⟨rfl, rfl⟩
theorem node_some (H : List Blk) (p left : Nat) (S : List (List Int)) (m : Nat) (s : Int) (hl : left ≤ 20000) (hp : H[p]? = some (labB (left + 1) false S m s)) :
    ACalls Try.prog f_impl_counter_node [.pc p 0 0] H (fun r H' => r = Bv true ∧ H' = H.set p (labB left false S m s)) := by
  have hpa := fun o => pc_alive (off := o) hp
  have hpl := fun o => pc_ld (off := o) hp
  unfold labB at *
  have hst : ∀ x, astore H [x] (.pc p 0 0) = some (H.set p ⟨0, tyLab, 1, [x, Bv false, ilSS S, I m, I s]⟩) := fun x => by rw [pc_st hp (by simp)]; rfl
  refine ACalls.introB s_impl_counter_node (by simp) ?_; intro hB hA; unfold c_impl_counter_node; simp (config := { maxSteps := 1000000 }) (disch := (first | omega | (simp only [go_sem]; try omega))) only [go_sem, Nat.reduceAdd, Nat.reduceEqDiff, Nat.reduceLeDiff, Nat.reduceMul, Nat.reduceLT, reduceIte, Int.reduceToNat, w64_id, cast_succ]
  repeat (first | (with_reducible first | refine SW.seq ?_ | refine SW.block ?_ | refine SW.rowC ?_ | refine SW.skip ?_ | refine SW.exit ?_ | intro _ | refine And.intro (by omega) ?_) | simp (config := { maxSteps := 1000000 }) (disch := (first | omega | (simp only [go_sem]; try omega))) only [go_sem, Nat.reduceAdd, Nat.reduceEqDiff, Nat.reduceLeDiff, Nat.reduceMul, Nat.reduceLT, reduceIte, Int.reduceToNat, w64_id, cast_succ, hpa, hpl])
  refine SW.condF (show Bv (decide (((left + 1 : Nat) : Int) = 0)) = Bv false by rw [decide_eq_false (by omega)]) ?_
  repeat (first | (with_reducible first | refine SW.seq ?_ | refine SW.block ?_ | refine SW.rowC ?_ | refine SW.skip ?_ | refine SW.exit ?_ | intro _ | refine And.intro (by omega) ?_) | simp (config := { maxSteps := 1000000 }) (disch := (first | omega | (simp only [go_sem]; try omega))) only [go_sem, Nat.reduceAdd, Nat.reduceEqDiff, Nat.reduceLeDiff, Nat.reduceMul, Nat.reduceLT, reduceIte, Int.reduceToNat, w64_id, cast_succ, hpa, hpl, hst])
  refine SW.ret ?_; (try simp only [go_sem]); (first | refine FunPost.one ?_ | refine FunPost.two ?_ | refine FunPost.three ?_); (try simp (config := { maxSteps := 1000000 }) (disch := (first | omega | (simp only [go_sem]; try omega))) only [go_sem, Nat.reduceAdd, Nat.reduceEqDiff, Nat.reduceLeDiff, Nat.reduceMul, Nat.reduceLT, reduceIte, Int.reduceToNat, w64_id, cast_succ])
  exact GR.of ⟨rfl, by rw [show ((left + 1 : Nat) : Int) - 1 = (left : Int) by omega]⟩
theorem count_c1_ok (H : List Blk) (p p1 p2 left i ty1 ty2 : Nat) (spent : Bool) (S : List (List Int)) (m : Nat) (s : Int) (b : List Int) (hbl : b.length ≤ 1000000) (hi : i < S.length) (hp : H[p]? = some (labB left spent S m s)) (h1 : H[p1]? = some ⟨0, ty1, 1, [.pc p 0 0]⟩) (h2 : H[p2]? = some ⟨0, ty2, 1, [I i]⟩) :
    ACalls Try.prog f_impl_labeler_count_c1 [ilS b, .pc p1 0 0, .pc p2 0 0] H (fun r H' => r = Bv (decide (s < (comm b (S.getD i []) : Int))) ∧ H' = H) := by
  have hpa := fun o => pc_alive (off := o) hp
  have hpl := fun o => pc_ld (off := o) hp
  unfold labB at hpa hpl
  have hpl1 := fun o => pc_ld (off := o) h1
  have hpl2 := fun o => pc_ld (off := o) h2
  have hcm := common_fn b (S.getD i []) hbl
  refine ACalls.introB s_impl_labeler_count_c1 (by simp) ?_; intro hB hA; unfold c_impl_labeler_count_c1; simp (config := { maxSteps := 1000000 }) (disch := (first | omega | (simp only [go_sem]; try omega))) only [go_sem, Nat.reduceAdd, Nat.reduceEqDiff, Nat.reduceLeDiff, Nat.reduceMul, Nat.reduceLT, reduceIte, Int.reduceToNat, w64_id, cast_succ]
  repeat (first | (with_reducible first | refine SW.seq ?_ | refine SW.block ?_ | refine SW.rowC ?_ | refine SW.skip ?_ | refine SW.exit ?_ | refine PFn.use (hcm) ?_ | refine PFn.useq (hcm) ?_ | intro _ | refine And.intro (by omega) ?_) | simp (config := { maxSteps := 1000000 }) (disch := (first | omega | (simp only [go_sem]; try omega))) only [go_sem, Nat.reduceAdd, Nat.reduceEqDiff, Nat.reduceLeDiff, Nat.reduceMul, Nat.reduceLT, reduceIte, Int.reduceToNat, w64_id, cast_succ, hpa, hpl, hpl1, hpl2])
  refine SW.ret ?_; (try simp only [go_sem]); (first | refine FunPost.one ?_ | refine FunPost.two ?_ | refine FunPost.three ?_); (try simp (config := { maxSteps := 1000000 }) (disch := (first | omega | (simp only [go_sem]; try omega))) only [go_sem, Nat.reduceAdd, Nat.reduceEqDiff, Nat.reduceLeDiff, Nat.reduceMul, Nat.reduceLT, reduceIte, Int.reduceToNat, w64_id, cast_succ])
  exact GR.of ⟨rfl, rfl⟩
end Go.Proofs.Ythogadbnddmkdaa
