/- Critical sets: what is plain. -/
import Derived.Test.YtchehdplcbffmaaProg
import Derived.KernelRfl
import Derived.Test.YtchehdplcbffmaazK36
set_option linter.unusedSimpArgs false
set_option linter.unusedVariables false
set_option maxHeartbeats 4000000
set_option maxRecDepth 100000
namespace Go.Proofs.Ytchehdplcbffmaa
open Go.Av
abbrev f_impl_FilledCells : Nat := 15
def c_impl_FilledCells : SC :=
 .seq (.reg [
     ⟨(some 2), .mv (.const (.int .i64 0)), none⟩] [0])
 (.seq (.seq (.reg [
     ⟨(some 3), .mv (.tmp 0), none⟩,
     ⟨(some 4), .call 19 [(.tmp 3)], none⟩,
     ⟨(some 5), .un .not (.tmp 4), none⟩] [0, 5])
 (.cond (.tmp 5)
  (.seq (.reg [
      ⟨(some 2), .mv (.const (.int .i64 0)), none⟩] [2])
  (.ret))
  (.skip)))
 (.seq (.reg [
     ⟨(some 6), .mv (.tmp 0), none⟩,
     ⟨(some 7), .call 42 [(.tmp 6)], none⟩,
     ⟨(some 8), .mv (.tmp 0), none⟩,
     ⟨(some 9), .call 42 [(.tmp 8)], none⟩,
     ⟨(some 10), .bin .mul (.tmp 7) (.tmp 9), none⟩,
     ⟨(some 11), .mv (.tmp 0), none⟩,
     ⟨(some 12), .call 49 [(.tmp 11)], none⟩,
     ⟨(some 13), .call 48 [(.tmp 12)], none⟩,
     ⟨(some 14), .bin .sub (.tmp 10) (.tmp 13), none⟩,
     ⟨(some 2), .mv (.tmp 14), none⟩] [2])
 (.ret)))
theorem s_impl_FilledCells : stripF Try.prog 15 [[0], [0, 5], [2], [2]] = some (c_impl_FilledCells, [.tmp 2], 15) := by kernel_rfl
theorem cel_at {n c : Nat} (hc : c < n * n) : c / n < n ∧ c % n < n := ⟨Nat.div_lt_of_lt_mul hc, Nat.mod_lt _ (by rcases Nat.eq_zero_or_pos n with h | h; subst h; omega; exact h)⟩
theorem FilledCells_fn (p : List (List Int)) (h : partB p = true) : PFn Try.prog f_impl_FilledCells [ilSS p] (I (((p.length * p.length : Nat) : Int) - ((empT p p.length (p.length * p.length)).length : Int))) := by
  have hv := ValidPartial_fn p
  rw [h] at hv
  have hf := partB_facts h
  have hle := empT_len p p.length (p.length * p.length)
  have hnn : p.length * p.length ≤ 100 := Nat.mul_le_mul hf.2.1 hf.2.1
  have he := emptyCells_fn p (by omega) hf.2.2
  have hw2 : w64 ((p.length : Int) * p.length) = ((p.length * p.length : Nat) : Int) := by rw [← Int.natCast_mul]; exact w64_id (by omega) (by omega)
  have hs := size_fn (natL (empT p p.length (p.length * p.length)))
  rw [show (natL (empT p p.length (p.length * p.length))).length = (empT p p.length (p.length * p.length)).length from List.length_map _] at hs
  generalize empT p p.length (p.length * p.length) = L at *
  have hw3 : w64 (((p.length * p.length : Nat) : Int) - (L.length : Int)) = ((p.length * p.length : Nat) : Int) - (L.length : Int) := w64_id (by omega) (by omega)
  intro H; refine ACalls.introB s_impl_FilledCells (by simp) ?_; intro hB hA; unfold c_impl_FilledCells; simp (config := { maxSteps := 1000000 }) (disch := (first | omega | (simp only [go_sem]; try omega))) only [go_sem, Nat.reduceAdd, Nat.reduceEqDiff, Nat.reduceLeDiff, Nat.reduceMul, Nat.reduceLT, reduceIte, Int.reduceToNat, w64_id, cast_succ]
  repeat (first | (with_reducible first | refine SW.seq ?_ | refine SW.block ?_ | refine SW.rowC ?_ | refine SW.skip ?_ | refine SW.exit ?_ | refine PFn.use (hv) ?_ | refine PFn.useq (hv) ?_ | intro _ | refine And.intro (by omega) ?_) | simp (config := { maxSteps := 1000000 }) (disch := (first | omega | (simp only [go_sem]; try omega))) only [go_sem, Nat.reduceAdd, Nat.reduceEqDiff, Nat.reduceLeDiff, Nat.reduceMul, Nat.reduceLT, reduceIte, Int.reduceToNat, w64_id, cast_succ])
  refine SW.condF rfl ?_
  repeat (first | (with_reducible first | refine SW.seq ?_ | refine SW.block ?_ | refine SW.rowC ?_ | refine SW.skip ?_ | refine SW.exit ?_ | refine PFn.use (sizeS_fn _) ?_ | refine PFn.useq (sizeS_fn _) ?_ | refine PFn.use (he) ?_ | refine PFn.useq (he) ?_ | refine PFn.use (hs) ?_ | refine PFn.useq (hs) ?_ | intro _ | refine And.intro (by omega) ?_) | simp (config := { maxSteps := 1000000 }) (disch := (first | omega | (simp only [go_sem]; try omega))) only [go_sem, Nat.reduceAdd, Nat.reduceEqDiff, Nat.reduceLeDiff, Nat.reduceMul, Nat.reduceLT, reduceIte, Int.reduceToNat, w64_id, cast_succ, hw2, hw3])
  refine SW.ret ?_; (try simp only [go_sem]); (first | refine FunPost.one ?_ | refine FunPost.two ?_ | refine FunPost.three ?_); (try simp (config := { maxSteps := 1000000 }) (disch := (first | omega | (simp only [go_sem]; try omega))) only [go_sem, Nat.reduceAdd, Nat.reduceEqDiff, Nat.reduceLeDiff, Nat.reduceMul, Nat.reduceLT, reduceIte, Int.reduceToNat, w64_id, cast_succ]); (first | (with_reducible refine GR.drop ?_ ?_; (simp only [go_sem, and_self, and_true, true_and, implies_true, List.take_succ_cons, List.take_zero])) | refine GR.of ?_); refine ⟨?_, rfl⟩; (try with_reducible rfl)
  rw [Int.natCast_mul]
end Go.Proofs.Ytchehdplcbffmaa
