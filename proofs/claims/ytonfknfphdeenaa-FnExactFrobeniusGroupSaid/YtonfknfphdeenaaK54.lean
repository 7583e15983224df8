/- The law of Frobenius groups. -/
import Derived.Test.YtonfknfphdeenaaProg
import Derived.KernelRfl
import Derived.Test.YtonfknfphdeenaaK53
set_option linter.unusedSimpArgs false
set_option linter.unusedVariables false
set_option maxHeartbeats 4000000
set_option maxRecDepth 100000
namespace Go.Proofs.Ytonfknfphdeenaa
open Go.Av

/-! The abstract code of functions, printed by program and tied to the program by the kernel. -/
/-- loop.example/g00920/laws.FnExactFrobeniusGroup -/
abbrev f_laws_FnExactFrobeniusGroup : Nat := 4
def c_laws_FnExactFrobeniusGroup : SC :=
 .seq (.reg [
     ⟨(some 4), .mv (.const (.bool false)), none⟩] [0, 1])
 (.seq (.reg [
     ⟨(some 14), .mv (.tmp 0), none⟩,
     ⟨(some 15), .mv (.tmp 1), none⟩,
     ⟨(some 16), .call 16 [(.tmp 14), (.tmp 15)], none⟩,
     ⟨(some 13), .mv (.tmp 16), none⟩,
     ⟨(some 17), .ext (.tmp 13) 0, none⟩,
     ⟨(some 18), .ext (.tmp 13) 1, none⟩,
     ⟨(some 5), .alloc 24 [(.int .i64 0), (.slice none 0 0)], none⟩,
     ⟨none, .store 2 (.tmp 5) (.tmp 17), none⟩,
     ⟨(some 6), .mv (.tmp 18), none⟩] [0, 1, 5, 6])
 (.seq (.reg [
     ⟨(some 20), .mv (.tmp 0), none⟩,
     ⟨(some 21), .mv (.tmp 1), none⟩,
     ⟨(some 22), .call 17 [(.tmp 20), (.tmp 21)], none⟩,
     ⟨(some 19), .mv (.tmp 22), none⟩,
     ⟨(some 23), .ext (.tmp 19) 0, none⟩,
     ⟨(some 24), .ext (.tmp 19) 1, none⟩,
     ⟨(some 7), .alloc 24 [(.int .i64 0), (.slice none 0 0)], none⟩,
     ⟨none, .store 2 (.tmp 7) (.tmp 23), none⟩,
     ⟨(some 8), .mv (.tmp 24), none⟩] [0, 1, 5, 6, 7, 8])
 (.seq (.seq (.reg [
     ⟨(some 25), .load 2 true (.tmp 7), none⟩,
     ⟨(some 26), .load 2 true (.tmp 5), none⟩,
     ⟨(some 27), .call 13 [(.tmp 25), (.tmp 26)], none⟩,
     ⟨(some 28), .un .not (.tmp 27), none⟩,
     ⟨(some 29), .mv (.tmp 28), none⟩,
     ⟨(some 30), .mv (.tmp 8), (some (29, false))⟩,
     ⟨(some 31), .mv (.tmp 6), (some (29, false))⟩,
     ⟨(some 32), .bin .neq (.tmp 30) (.tmp 31), (some (29, false))⟩,
     ⟨(some 33), .pick (.tmp 29) (.const (.bool true)) (.tmp 32), none⟩] [0, 1, 5, 6, 7, 33])
 (.cond (.tmp 33)
  (.seq (.reg [
      ⟨(some 4), .mv (.const (.bool false)), none⟩] [4])
  (.ret))
  (.skip)))
 (.seq (.reg [
     ⟨(some 9), .mv (.const (.int .i64 1)), none⟩] [0, 1, 5, 6, 7, 9])
 (.seq (.reg [
     ⟨(some 34), .load 2 true (.tmp 7), none⟩,
     ⟨(some 35), .mv (.tmp 9), none⟩,
     ⟨(some 36), .call 14 [(.tmp 34), (.tmp 35)], none⟩,
     ⟨(some 9), .mv (.tmp 36), none⟩] [0, 1, 5, 6, 7, 9])
 (.seq (.reg [
     ⟨(some 10), .mv (.const (.int .i64 1)), none⟩] [0, 1, 5, 6, 7, 9, 10])
 (.seq (.reg [
     ⟨(some 37), .load 2 true (.tmp 7), none⟩,
     ⟨(some 38), .mv (.tmp 10), none⟩,
     ⟨(some 39), .call 15 [(.tmp 37), (.tmp 38)], none⟩,
     ⟨(some 10), .mv (.tmp 39), none⟩] [0, 1, 5, 6, 7, 9, 10])
 (.seq (.seq (.reg [
     ⟨(some 40), .mv (.tmp 10), none⟩,
     ⟨(some 41), .bin .lss (.tmp 40) (.const (.int .i64 0)), none⟩] [0, 1, 5, 6, 7, 9, 10, 41])
 (.cond (.tmp 41)
  (.seq (.reg [
      ⟨(some 4), .mv (.const (.bool false)), none⟩] [4])
  (.ret))
  (.skip)))
 (.seq (.seq (.reg [
     ⟨(some 42), .mv (.tmp 10), none⟩,
     ⟨(some 43), .mv (.tmp 9), none⟩,
     ⟨(some 44), .bin .neq (.tmp 42) (.tmp 43), none⟩] [0, 1, 5, 6, 7, 9, 44])
 (.cond (.tmp 44)
  (.seq (.reg [
      ⟨(some 4), .mv (.const (.bool false)), none⟩] [4])
  (.ret))
  (.skip)))
 (.seq (.reg [
     ⟨(some 46), .mv (.tmp 0), none⟩,
     ⟨(some 47), .mv (.tmp 1), none⟩,
     ⟨(some 48), .call 17 [(.tmp 46), (.tmp 47)], none⟩,
     ⟨(some 45), .mv (.tmp 48), none⟩,
     ⟨(some 49), .ext (.tmp 45) 0, none⟩,
     ⟨(some 50), .ext (.tmp 45) 1, none⟩,
     ⟨(some 11), .alloc 24 [(.int .i64 0), (.slice none 0 0)], none⟩,
     ⟨none, .store 2 (.tmp 11) (.tmp 49), none⟩,
     ⟨(some 12), .mv (.tmp 50), none⟩] [5, 6, 7, 9, 11, 12])
 (.seq (.seq (.reg [
     ⟨(some 51), .load 2 true (.tmp 11), none⟩,
     ⟨(some 52), .load 2 true (.tmp 5), none⟩,
     ⟨(some 53), .call 13 [(.tmp 51), (.tmp 52)], none⟩,
     ⟨(some 54), .un .not (.tmp 53), none⟩,
     ⟨(some 55), .mv (.tmp 54), none⟩,
     ⟨(some 56), .mv (.tmp 12), (some (55, false))⟩,
     ⟨(some 57), .mv (.tmp 6), (some (55, false))⟩,
     ⟨(some 58), .bin .neq (.tmp 56) (.tmp 57), (some (55, false))⟩,
     ⟨(some 59), .pick (.tmp 55) (.const (.bool true)) (.tmp 58), none⟩] [7, 9, 59])
 (.cond (.tmp 59)
  (.seq (.reg [
      ⟨(some 4), .mv (.const (.bool false)), none⟩] [4])
  (.ret))
  (.skip)))
 (.seq (.reg [
     ⟨(some 10), .mv (.const (.int .i64 1)), none⟩] [7, 9, 10])
 (.seq (.reg [
     ⟨(some 60), .load 2 true (.tmp 7), none⟩,
     ⟨(some 61), .mv (.tmp 10), none⟩,
     ⟨(some 62), .call 15 [(.tmp 60), (.tmp 61)], none⟩,
     ⟨(some 10), .mv (.tmp 62), none⟩] [9, 10])
 (.seq (.seq (.reg [
     ⟨(some 63), .mv (.tmp 10), none⟩,
     ⟨(some 64), .bin .lss (.tmp 63) (.const (.int .i64 0)), none⟩] [9, 10, 64])
 (.cond (.tmp 64)
  (.seq (.reg [
      ⟨(some 4), .mv (.const (.bool false)), none⟩] [4])
  (.ret))
  (.skip)))
 (.seq (.seq (.reg [
     ⟨(some 65), .mv (.tmp 10), none⟩,
     ⟨(some 66), .mv (.tmp 9), none⟩,
     ⟨(some 67), .bin .neq (.tmp 65) (.tmp 66), none⟩] [67])
 (.cond (.tmp 67)
  (.seq (.reg [
      ⟨(some 4), .mv (.const (.bool false)), none⟩] [4])
  (.ret))
  (.skip)))
 (.seq (.reg [
     ⟨(some 4), .mv (.const (.bool true)), none⟩] [4])
 (.ret)))))))))))))))))
theorem s_laws_FnExactFrobeniusGroup : stripF Try.prog 4 [[0, 1], [0, 1, 5, 6], [0, 1, 5, 6, 7, 8], [0, 1, 5, 6, 7, 33], [4], [0, 1, 5, 6, 7, 9], [0, 1, 5, 6, 7, 9], [0, 1, 5, 6, 7, 9, 10], [0, 1, 5, 6, 7, 9, 10], [0, 1, 5, 6, 7, 9, 10, 41], [4], [0, 1, 5, 6, 7, 9, 44], [4], [5, 6, 7, 9, 11, 12], [7, 9, 59], [4], [7, 9, 10], [9, 10], [9, 10, 64], [4], [67], [4], [4]] = some (c_laws_FnExactFrobeniusGroup, [.tmp 4], 68) := by kernel_rfl


theorem primeS_ge {n : Int} (h : primeS n = true) : 2 ≤ n := by
  unfold primeS at h
  simp only [Bool.and_eq_true, decide_eq_true_eq] at h
  exact h.1.1

theorem frobA (p e : Int) : ∃ (items code : Int) (xss : List (List Int)), total xss ≤ 40000 ∧ (∀ H, ACalls Try.prog f_spec_FrobeniusGroup [I p, I e] H (fun r H' => (∃ w, r = .tup [.agg [I items, w], I code] ∧ w.cell1 = true ∧ partsOf w = [w] ∧ ∀ H, RdSS H w xss) ∧ H' = H)) ∧
    ∀ H, ACalls Try.prog f_impl_FrobeniusGroup [I p, I e] H (fun r H' => ∃ ext v, H' = H ++ ext ∧ r = .tup [.agg [I items, v], I code] ∧ OwnSS H' (Btw H.length H'.length) v xss) := by
  by_cases a1 : 32 < p
  · have d1 : decide ((32 : Int) < p) = true := decide_eq_true a1
    cases hpr : primeS p
    · refine ⟨0, 2, [], by simp [total], fun H => ?_, fun H => ?_⟩
      · refine ACalls.introB s_spec_FrobeniusGroup (by simp) ?_; intro hB hA; unfold c_spec_FrobeniusGroup; simp (config := { maxSteps := 1000000 }) (disch := (first | omega | (simp only [go_sem]; try omega))) only [go_sem, Nat.reduceAdd, Nat.reduceEqDiff, Nat.reduceLeDiff, Nat.reduceMul, Nat.reduceLT, reduceIte, Int.reduceToNat, w64_id, cast_succ]
        repeat (first | (with_reducible first | refine SW.seq ?_ | refine SW.block ?_ | refine SW.rowC ?_ | refine SW.skip ?_ | refine SW.exit ?_ | refine PFn.use (specIsPrime_fn _) ?_ | refine PFn.useq (specIsPrime_fn _) ?_ | refine PFn.use (l00In_fn _ _ _) ?_ | refine PFn.useq (l00In_fn _ _ _) ?_ | intro _ | refine And.intro (by omega) ?_) | simp (config := { maxSteps := 1000000 }) (disch := (first | omega | (simp only [go_sem]; try omega))) only [go_sem, Nat.reduceAdd, Nat.reduceEqDiff, Nat.reduceLeDiff, Nat.reduceMul, Nat.reduceLT, reduceIte, Int.reduceToNat, w64_id, cast_succ, hpr])
        refine SW.condT rfl ?_
        repeat (first | (with_reducible first | refine SW.seq ?_ | refine SW.block ?_ | refine SW.rowC ?_ | refine SW.skip ?_ | refine SW.exit ?_ | intro _ | refine And.intro (by omega) ?_) | simp (config := { maxSteps := 1000000 }) (disch := (first | omega | (simp only [go_sem]; try omega))) only [go_sem, Nat.reduceAdd, Nat.reduceEqDiff, Nat.reduceLeDiff, Nat.reduceMul, Nat.reduceLT, reduceIte, Int.reduceToNat, w64_id, cast_succ])
        refine SW.ret ?_
        refine FunPost.cell_tmp (cs := [I 0, nilS]) (by simp (config := { maxSteps := 1000000 }) (disch := (first | omega | (simp only [go_sem]; try omega))) only [go_sem, Nat.reduceAdd, Nat.reduceEqDiff, Nat.reduceLeDiff, Nat.reduceMul, Nat.reduceLT, reduceIte, Int.reduceToNat, w64_id, cast_succ]) (GR.drop (ext := [_]) ?_ ?_)
        · (try simp (config := { maxSteps := 1000000 }) (disch := (first | omega | (simp only [go_sem]; try omega))) only [go_sem, Nat.reduceAdd, Nat.reduceEqDiff, Nat.reduceLeDiff, Nat.reduceMul, Nat.reduceLT, reduceIte, Int.reduceToNat, w64_id, cast_succ])
          (try (simp only [go_sem, Nat.reduceAdd, Nat.reduceEqDiff, reduceIte, go_sem, and_self, and_true, true_and, implies_true, List.take_succ_cons, List.take_zero, and_true, true_and]; try omega))
        · exact ⟨⟨nilS, rfl, rfl, rfl, fun H => ⟨[], rfl, rfl, fun j c xs h => by simp at h⟩⟩, rfl⟩
      · refine ACalls.introB s_impl_FrobeniusGroup (by simp) ?_; intro hB hA; unfold c_impl_FrobeniusGroup; simp (config := { maxSteps := 1000000 }) (disch := (first | omega | (simp only [go_sem]; try omega))) only [go_sem, Nat.reduceAdd, Nat.reduceEqDiff, Nat.reduceLeDiff, Nat.reduceMul, Nat.reduceLT, reduceIte, Int.reduceToNat, w64_id, cast_succ]
        repeat (first | (with_reducible first | refine SW.seq ?_ | refine SW.block ?_ | refine SW.rowC ?_ | refine SW.skip ?_ | refine SW.exit ?_ | refine PFn.use (within_fn _ _ _) ?_ | refine PFn.useq (within_fn _ _ _) ?_ | intro _ | refine And.intro (by omega) ?_) | simp (config := { maxSteps := 1000000 }) (disch := (first | omega | (simp only [go_sem]; try omega))) only [go_sem, Nat.reduceAdd, Nat.reduceEqDiff, Nat.reduceLeDiff, Nat.reduceMul, Nat.reduceLT, reduceIte, Int.reduceToNat, w64_id, cast_succ, d1])
        refine SW.condT rfl ?_
        repeat (first | (with_reducible first | refine SW.seq ?_ | refine SW.block ?_ | refine SW.rowC ?_ | refine SW.skip ?_ | refine SW.exit ?_ | intro _ | refine And.intro (by omega) ?_) | simp (config := { maxSteps := 1000000 }) (disch := (first | omega | (simp only [go_sem]; try omega))) only [go_sem, Nat.reduceAdd, Nat.reduceEqDiff, Nat.reduceLeDiff, Nat.reduceMul, Nat.reduceLT, reduceIte, Int.reduceToNat, w64_id, cast_succ])
        refine SW.ret ?_
        refine FunPost.cell_tmp (cs := [I 0, nilS]) (by simp (config := { maxSteps := 1000000 }) (disch := (first | omega | (simp only [go_sem]; try omega))) only [go_sem, Nat.reduceAdd, Nat.reduceEqDiff, Nat.reduceLeDiff, Nat.reduceMul, Nat.reduceLT, reduceIte, Int.reduceToNat, w64_id, cast_succ]) (GR.of ⟨_, nilS, rfl, rfl, .inr ⟨rfl, .inl rfl⟩⟩)
    · refine ⟨0, 2, [], by simp [total], fun H => ?_, fun H => ?_⟩
      · refine ACalls.introB s_spec_FrobeniusGroup (by simp) ?_; intro hB hA; unfold c_spec_FrobeniusGroup; simp (config := { maxSteps := 1000000 }) (disch := (first | omega | (simp only [go_sem]; try omega))) only [go_sem, Nat.reduceAdd, Nat.reduceEqDiff, Nat.reduceLeDiff, Nat.reduceMul, Nat.reduceLT, reduceIte, Int.reduceToNat, w64_id, cast_succ]
        repeat (first | (with_reducible first | refine SW.seq ?_ | refine SW.block ?_ | refine SW.rowC ?_ | refine SW.skip ?_ | refine SW.exit ?_ | refine PFn.use (specIsPrime_fn _) ?_ | refine PFn.useq (specIsPrime_fn _) ?_ | refine PFn.use (l00In_fn _ _ _) ?_ | refine PFn.useq (l00In_fn _ _ _) ?_ | intro _ | refine And.intro (by omega) ?_) | simp (config := { maxSteps := 1000000 }) (disch := (first | omega | (simp only [go_sem]; try omega))) only [go_sem, Nat.reduceAdd, Nat.reduceEqDiff, Nat.reduceLeDiff, Nat.reduceMul, Nat.reduceLT, reduceIte, Int.reduceToNat, w64_id, cast_succ, hpr, d1])
        refine SW.condT rfl ?_
        repeat (first | (with_reducible first | refine SW.seq ?_ | refine SW.block ?_ | refine SW.rowC ?_ | refine SW.skip ?_ | refine SW.exit ?_ | intro _ | refine And.intro (by omega) ?_) | simp (config := { maxSteps := 1000000 }) (disch := (first | omega | (simp only [go_sem]; try omega))) only [go_sem, Nat.reduceAdd, Nat.reduceEqDiff, Nat.reduceLeDiff, Nat.reduceMul, Nat.reduceLT, reduceIte, Int.reduceToNat, w64_id, cast_succ])
        refine SW.ret ?_
        refine FunPost.cell_tmp (cs := [I 0, nilS]) (by simp (config := { maxSteps := 1000000 }) (disch := (first | omega | (simp only [go_sem]; try omega))) only [go_sem, Nat.reduceAdd, Nat.reduceEqDiff, Nat.reduceLeDiff, Nat.reduceMul, Nat.reduceLT, reduceIte, Int.reduceToNat, w64_id, cast_succ]) (GR.drop (ext := [_]) ?_ ?_)
        · (try simp (config := { maxSteps := 1000000 }) (disch := (first | omega | (simp only [go_sem]; try omega))) only [go_sem, Nat.reduceAdd, Nat.reduceEqDiff, Nat.reduceLeDiff, Nat.reduceMul, Nat.reduceLT, reduceIte, Int.reduceToNat, w64_id, cast_succ])
          (try (simp only [go_sem, Nat.reduceAdd, Nat.reduceEqDiff, reduceIte, go_sem, and_self, and_true, true_and, implies_true, List.take_succ_cons, List.take_zero, and_true, true_and]; try omega))
        · exact ⟨⟨nilS, rfl, rfl, rfl, fun H => ⟨[], rfl, rfl, fun j c xs h => by simp at h⟩⟩, rfl⟩
      · refine ACalls.introB s_impl_FrobeniusGroup (by simp) ?_; intro hB hA; unfold c_impl_FrobeniusGroup; simp (config := { maxSteps := 1000000 }) (disch := (first | omega | (simp only [go_sem]; try omega))) only [go_sem, Nat.reduceAdd, Nat.reduceEqDiff, Nat.reduceLeDiff, Nat.reduceMul, Nat.reduceLT, reduceIte, Int.reduceToNat, w64_id, cast_succ]
        repeat (first | (with_reducible first | refine SW.seq ?_ | refine SW.block ?_ | refine SW.rowC ?_ | refine SW.skip ?_ | refine SW.exit ?_ | refine PFn.use (within_fn _ _ _) ?_ | refine PFn.useq (within_fn _ _ _) ?_ | intro _ | refine And.intro (by omega) ?_) | simp (config := { maxSteps := 1000000 }) (disch := (first | omega | (simp only [go_sem]; try omega))) only [go_sem, Nat.reduceAdd, Nat.reduceEqDiff, Nat.reduceLeDiff, Nat.reduceMul, Nat.reduceLT, reduceIte, Int.reduceToNat, w64_id, cast_succ, d1])
        refine SW.condT rfl ?_
        repeat (first | (with_reducible first | refine SW.seq ?_ | refine SW.block ?_ | refine SW.rowC ?_ | refine SW.skip ?_ | refine SW.exit ?_ | intro _ | refine And.intro (by omega) ?_) | simp (config := { maxSteps := 1000000 }) (disch := (first | omega | (simp only [go_sem]; try omega))) only [go_sem, Nat.reduceAdd, Nat.reduceEqDiff, Nat.reduceLeDiff, Nat.reduceMul, Nat.reduceLT, reduceIte, Int.reduceToNat, w64_id, cast_succ])
        refine SW.ret ?_
        refine FunPost.cell_tmp (cs := [I 0, nilS]) (by simp (config := { maxSteps := 1000000 }) (disch := (first | omega | (simp only [go_sem]; try omega))) only [go_sem, Nat.reduceAdd, Nat.reduceEqDiff, Nat.reduceLeDiff, Nat.reduceMul, Nat.reduceLT, reduceIte, Int.reduceToNat, w64_id, cast_succ]) (GR.of ⟨_, nilS, rfl, rfl, .inr ⟨rfl, .inl rfl⟩⟩)
  have d1 : decide ((32 : Int) < p) = false := decide_eq_false a1
  have hip := implIsPrime_fn p (by omega)
  cases hpr : primeS p
  · rw [hpr] at hip
    refine ⟨0, 2, [], by simp [total], fun H => ?_, fun H => ?_⟩
    · refine ACalls.introB s_spec_FrobeniusGroup (by simp) ?_; intro hB hA; unfold c_spec_FrobeniusGroup; simp (config := { maxSteps := 1000000 }) (disch := (first | omega | (simp only [go_sem]; try omega))) only [go_sem, Nat.reduceAdd, Nat.reduceEqDiff, Nat.reduceLeDiff, Nat.reduceMul, Nat.reduceLT, reduceIte, Int.reduceToNat, w64_id, cast_succ]
      repeat (first | (with_reducible first | refine SW.seq ?_ | refine SW.block ?_ | refine SW.rowC ?_ | refine SW.skip ?_ | refine SW.exit ?_ | refine PFn.use (specIsPrime_fn _) ?_ | refine PFn.useq (specIsPrime_fn _) ?_ | refine PFn.use (l00In_fn _ _ _) ?_ | refine PFn.useq (l00In_fn _ _ _) ?_ | intro _ | refine And.intro (by omega) ?_) | simp (config := { maxSteps := 1000000 }) (disch := (first | omega | (simp only [go_sem]; try omega))) only [go_sem, Nat.reduceAdd, Nat.reduceEqDiff, Nat.reduceLeDiff, Nat.reduceMul, Nat.reduceLT, reduceIte, Int.reduceToNat, w64_id, cast_succ, hpr])
      refine SW.condT rfl ?_
      repeat (first | (with_reducible first | refine SW.seq ?_ | refine SW.block ?_ | refine SW.rowC ?_ | refine SW.skip ?_ | refine SW.exit ?_ | intro _ | refine And.intro (by omega) ?_) | simp (config := { maxSteps := 1000000 }) (disch := (first | omega | (simp only [go_sem]; try omega))) only [go_sem, Nat.reduceAdd, Nat.reduceEqDiff, Nat.reduceLeDiff, Nat.reduceMul, Nat.reduceLT, reduceIte, Int.reduceToNat, w64_id, cast_succ])
      refine SW.ret ?_
      refine FunPost.cell_tmp (cs := [I 0, nilS]) (by simp (config := { maxSteps := 1000000 }) (disch := (first | omega | (simp only [go_sem]; try omega))) only [go_sem, Nat.reduceAdd, Nat.reduceEqDiff, Nat.reduceLeDiff, Nat.reduceMul, Nat.reduceLT, reduceIte, Int.reduceToNat, w64_id, cast_succ]) (GR.drop (ext := [_]) ?_ ?_)
      · (try simp (config := { maxSteps := 1000000 }) (disch := (first | omega | (simp only [go_sem]; try omega))) only [go_sem, Nat.reduceAdd, Nat.reduceEqDiff, Nat.reduceLeDiff, Nat.reduceMul, Nat.reduceLT, reduceIte, Int.reduceToNat, w64_id, cast_succ])
        (try (simp only [go_sem, Nat.reduceAdd, Nat.reduceEqDiff, reduceIte, go_sem, and_self, and_true, true_and, implies_true, List.take_succ_cons, List.take_zero, and_true, true_and]; try omega))
      · exact ⟨⟨nilS, rfl, rfl, rfl, fun H => ⟨[], rfl, rfl, fun j c xs h => by simp at h⟩⟩, rfl⟩
    · refine ACalls.introB s_impl_FrobeniusGroup (by simp) ?_; intro hB hA; unfold c_impl_FrobeniusGroup; simp (config := { maxSteps := 1000000 }) (disch := (first | omega | (simp only [go_sem]; try omega))) only [go_sem, Nat.reduceAdd, Nat.reduceEqDiff, Nat.reduceLeDiff, Nat.reduceMul, Nat.reduceLT, reduceIte, Int.reduceToNat, w64_id, cast_succ]
      repeat (first | (with_reducible first | refine SW.seq ?_ | refine SW.block ?_ | refine SW.rowC ?_ | refine SW.skip ?_ | refine SW.exit ?_ | refine PFn.use (hip) ?_ | refine PFn.useq (hip) ?_ | refine PFn.use (within_fn _ _ _) ?_ | refine PFn.useq (within_fn _ _ _) ?_ | intro _ | refine And.intro (by omega) ?_) | simp (config := { maxSteps := 1000000 }) (disch := (first | omega | (simp only [go_sem]; try omega))) only [go_sem, Nat.reduceAdd, Nat.reduceEqDiff, Nat.reduceLeDiff, Nat.reduceMul, Nat.reduceLT, reduceIte, Int.reduceToNat, w64_id, cast_succ, d1])
      refine SW.condT rfl ?_
      repeat (first | (with_reducible first | refine SW.seq ?_ | refine SW.block ?_ | refine SW.rowC ?_ | refine SW.skip ?_ | refine SW.exit ?_ | intro _ | refine And.intro (by omega) ?_) | simp (config := { maxSteps := 1000000 }) (disch := (first | omega | (simp only [go_sem]; try omega))) only [go_sem, Nat.reduceAdd, Nat.reduceEqDiff, Nat.reduceLeDiff, Nat.reduceMul, Nat.reduceLT, reduceIte, Int.reduceToNat, w64_id, cast_succ])
      refine SW.ret ?_
      refine FunPost.cell_tmp (cs := [I 0, nilS]) (by simp (config := { maxSteps := 1000000 }) (disch := (first | omega | (simp only [go_sem]; try omega))) only [go_sem, Nat.reduceAdd, Nat.reduceEqDiff, Nat.reduceLeDiff, Nat.reduceMul, Nat.reduceLT, reduceIte, Int.reduceToNat, w64_id, cast_succ]) (GR.of ⟨_, nilS, rfl, rfl, .inr ⟨rfl, .inl rfl⟩⟩)
  rw [hpr] at hip
  have hp2 := primeS_ge hpr
  obtain ⟨p, rfl⟩ := Int.eq_ofNat_of_zero_le (show 0 ≤ p by omega)
  have e1 : ((p : Int) - 1) = ((p - 1 : Nat) : Int) := by omega
  by_cases a2 : 1 ≤ e ∧ e ≤ ((p - 1 : Nat) : Int)
  rotate_left
  · have d3 : (decide ((1 : Int) ≤ e) && decide (e ≤ ((p - 1 : Nat) : Int))) = false := by
      rcases Classical.not_and_iff_not_or_not.1 a2 with h | h <;> simp only [decide_eq_false h, Bool.false_and, Bool.and_false]
    refine ⟨0, 2, [], by simp [total], fun H => ?_, fun H => ?_⟩
    · refine ACalls.introB s_spec_FrobeniusGroup (by simp) ?_; intro hB hA; unfold c_spec_FrobeniusGroup; simp (config := { maxSteps := 1000000 }) (disch := (first | omega | (simp only [go_sem]; try omega))) only [go_sem, Nat.reduceAdd, Nat.reduceEqDiff, Nat.reduceLeDiff, Nat.reduceMul, Nat.reduceLT, reduceIte, Int.reduceToNat, w64_id, cast_succ]
      repeat (first | (with_reducible first | refine SW.seq ?_ | refine SW.block ?_ | refine SW.rowC ?_ | refine SW.skip ?_ | refine SW.exit ?_ | refine PFn.use (specIsPrime_fn _) ?_ | refine PFn.useq (specIsPrime_fn _) ?_ | refine PFn.use (l00In_fn _ _ _) ?_ | refine PFn.useq (l00In_fn _ _ _) ?_ | intro _ | refine And.intro (by omega) ?_) | simp (config := { maxSteps := 1000000 }) (disch := (first | omega | (simp only [go_sem]; try omega))) only [go_sem, Nat.reduceAdd, Nat.reduceEqDiff, Nat.reduceLeDiff, Nat.reduceMul, Nat.reduceLT, reduceIte, Int.reduceToNat, w64_id, cast_succ, hpr, d1, e1, d3])
      refine SW.condT rfl ?_
      repeat (first | (with_reducible first | refine SW.seq ?_ | refine SW.block ?_ | refine SW.rowC ?_ | refine SW.skip ?_ | refine SW.exit ?_ | intro _ | refine And.intro (by omega) ?_) | simp (config := { maxSteps := 1000000 }) (disch := (first | omega | (simp only [go_sem]; try omega))) only [go_sem, Nat.reduceAdd, Nat.reduceEqDiff, Nat.reduceLeDiff, Nat.reduceMul, Nat.reduceLT, reduceIte, Int.reduceToNat, w64_id, cast_succ])
      refine SW.ret ?_
      refine FunPost.cell_tmp (cs := [I 0, nilS]) (by simp (config := { maxSteps := 1000000 }) (disch := (first | omega | (simp only [go_sem]; try omega))) only [go_sem, Nat.reduceAdd, Nat.reduceEqDiff, Nat.reduceLeDiff, Nat.reduceMul, Nat.reduceLT, reduceIte, Int.reduceToNat, w64_id, cast_succ]) (GR.drop (ext := [_]) ?_ ?_)
      · (try simp (config := { maxSteps := 1000000 }) (disch := (first | omega | (simp only [go_sem]; try omega))) only [go_sem, Nat.reduceAdd, Nat.reduceEqDiff, Nat.reduceLeDiff, Nat.reduceMul, Nat.reduceLT, reduceIte, Int.reduceToNat, w64_id, cast_succ])
        (try (simp only [go_sem, Nat.reduceAdd, Nat.reduceEqDiff, reduceIte, go_sem, and_self, and_true, true_and, implies_true, List.take_succ_cons, List.take_zero, and_true, true_and]; try omega))
      · exact ⟨⟨nilS, rfl, rfl, rfl, fun H => ⟨[], rfl, rfl, fun j c xs h => by simp at h⟩⟩, rfl⟩
    · refine ACalls.introB s_impl_FrobeniusGroup (by simp) ?_; intro hB hA; unfold c_impl_FrobeniusGroup; simp (config := { maxSteps := 1000000 }) (disch := (first | omega | (simp only [go_sem]; try omega))) only [go_sem, Nat.reduceAdd, Nat.reduceEqDiff, Nat.reduceLeDiff, Nat.reduceMul, Nat.reduceLT, reduceIte, Int.reduceToNat, w64_id, cast_succ]
      repeat (first | (with_reducible first | refine SW.seq ?_ | refine SW.block ?_ | refine SW.rowC ?_ | refine SW.skip ?_ | refine SW.exit ?_ | refine PFn.use (hip) ?_ | refine PFn.useq (hip) ?_ | refine PFn.use (within_fn _ _ _) ?_ | refine PFn.useq (within_fn _ _ _) ?_ | intro _ | refine And.intro (by omega) ?_) | simp (config := { maxSteps := 1000000 }) (disch := (first | omega | (simp only [go_sem]; try omega))) only [go_sem, Nat.reduceAdd, Nat.reduceEqDiff, Nat.reduceLeDiff, Nat.reduceMul, Nat.reduceLT, reduceIte, Int.reduceToNat, w64_id, cast_succ, d1, e1, d3])
      refine SW.condT rfl ?_
      repeat (first | (with_reducible first | refine SW.seq ?_ | refine SW.block ?_ | refine SW.rowC ?_ | refine SW.skip ?_ | refine SW.exit ?_ | intro _ | refine And.intro (by omega) ?_) | simp (config := { maxSteps := 1000000 }) (disch := (first | omega | (simp only [go_sem]; try omega))) only [go_sem, Nat.reduceAdd, Nat.reduceEqDiff, Nat.reduceLeDiff, Nat.reduceMul, Nat.reduceLT, reduceIte, Int.reduceToNat, w64_id, cast_succ])
      refine SW.ret ?_
      refine FunPost.cell_tmp (cs := [I 0, nilS]) (by simp (config := { maxSteps := 1000000 }) (disch := (first | omega | (simp only [go_sem]; try omega))) only [go_sem, Nat.reduceAdd, Nat.reduceEqDiff, Nat.reduceLeDiff, Nat.reduceMul, Nat.reduceLT, reduceIte, Int.reduceToNat, w64_id, cast_succ]) (GR.of ⟨_, nilS, rfl, rfl, .inr ⟨rfl, .inl rfl⟩⟩)
  obtain ⟨e, rfl⟩ := Int.eq_ofNat_of_zero_le (show 0 ≤ e by omega)
  have hz : ¬ (e : Int) = 0 := by omega
  have d3 : (decide ((1 : Int) ≤ (e : Int)) && decide ((e : Int) ≤ ((p - 1 : Nat) : Int))) = true := by
    rw [decide_eq_true a2.1, decide_eq_true a2.2]; rfl
  by_cases a3 : (p - 1) % e = 0
  rotate_left
  · have d5 : decide ((((p - 1) % e : Nat) : Int) = 0) = false := decide_eq_false (by omega)
    refine ⟨0, 2, [], by simp [total], fun H => ?_, fun H => ?_⟩
    · refine ACalls.introB s_spec_FrobeniusGroup (by simp) ?_; intro hB hA; unfold c_spec_FrobeniusGroup; simp (config := { maxSteps := 1000000 }) (disch := (first | omega | (simp only [go_sem]; try omega))) only [go_sem, Nat.reduceAdd, Nat.reduceEqDiff, Nat.reduceLeDiff, Nat.reduceMul, Nat.reduceLT, reduceIte, Int.reduceToNat, w64_id, cast_succ]
      repeat (first | (with_reducible first | refine SW.seq ?_ | refine SW.block ?_ | refine SW.rowC ?_ | refine SW.skip ?_ | refine SW.exit ?_ | refine PFn.use (specIsPrime_fn _) ?_ | refine PFn.useq (specIsPrime_fn _) ?_ | refine PFn.use (l00In_fn _ _ _) ?_ | refine PFn.useq (l00In_fn _ _ _) ?_ | intro _ | refine And.intro (by omega) ?_) | simp (config := { maxSteps := 1000000 }) (disch := (first | omega | (simp only [go_sem]; try omega))) only [go_sem, Nat.reduceAdd, Nat.reduceEqDiff, Nat.reduceLeDiff, Nat.reduceMul, Nat.reduceLT, reduceIte, Int.reduceToNat, w64_id, cast_succ, hpr, d1, e1, d3, tmodN, d5])
      refine SW.condT rfl ?_
      repeat (first | (with_reducible first | refine SW.seq ?_ | refine SW.block ?_ | refine SW.rowC ?_ | refine SW.skip ?_ | refine SW.exit ?_ | intro _ | refine And.intro (by omega) ?_) | simp (config := { maxSteps := 1000000 }) (disch := (first | omega | (simp only [go_sem]; try omega))) only [go_sem, Nat.reduceAdd, Nat.reduceEqDiff, Nat.reduceLeDiff, Nat.reduceMul, Nat.reduceLT, reduceIte, Int.reduceToNat, w64_id, cast_succ])
      refine SW.ret ?_
      refine FunPost.cell_tmp (cs := [I 0, nilS]) (by simp (config := { maxSteps := 1000000 }) (disch := (first | omega | (simp only [go_sem]; try omega))) only [go_sem, Nat.reduceAdd, Nat.reduceEqDiff, Nat.reduceLeDiff, Nat.reduceMul, Nat.reduceLT, reduceIte, Int.reduceToNat, w64_id, cast_succ]) (GR.drop (ext := [_]) ?_ ?_)
      · (try simp (config := { maxSteps := 1000000 }) (disch := (first | omega | (simp only [go_sem]; try omega))) only [go_sem, Nat.reduceAdd, Nat.reduceEqDiff, Nat.reduceLeDiff, Nat.reduceMul, Nat.reduceLT, reduceIte, Int.reduceToNat, w64_id, cast_succ])
        (try (simp only [go_sem, Nat.reduceAdd, Nat.reduceEqDiff, reduceIte, go_sem, and_self, and_true, true_and, implies_true, List.take_succ_cons, List.take_zero, and_true, true_and]; try omega))
      · exact ⟨⟨nilS, rfl, rfl, rfl, fun H => ⟨[], rfl, rfl, fun j c xs h => by simp at h⟩⟩, rfl⟩
    · refine ACalls.introB s_impl_FrobeniusGroup (by simp) ?_; intro hB hA; unfold c_impl_FrobeniusGroup; simp (config := { maxSteps := 1000000 }) (disch := (first | omega | (simp only [go_sem]; try omega))) only [go_sem, Nat.reduceAdd, Nat.reduceEqDiff, Nat.reduceLeDiff, Nat.reduceMul, Nat.reduceLT, reduceIte, Int.reduceToNat, w64_id, cast_succ]
      repeat (first | (with_reducible first | refine SW.seq ?_ | refine SW.block ?_ | refine SW.rowC ?_ | refine SW.skip ?_ | refine SW.exit ?_ | refine PFn.use (hip) ?_ | refine PFn.useq (hip) ?_ | refine PFn.use (within_fn _ _ _) ?_ | refine PFn.useq (within_fn _ _ _) ?_ | intro _ | refine And.intro (by omega) ?_) | simp (config := { maxSteps := 1000000 }) (disch := (first | omega | (simp only [go_sem]; try omega))) only [go_sem, Nat.reduceAdd, Nat.reduceEqDiff, Nat.reduceLeDiff, Nat.reduceMul, Nat.reduceLT, reduceIte, Int.reduceToNat, w64_id, cast_succ, d1, e1, d3, tmodN, d5])
      refine SW.condT rfl ?_
      repeat (first | (with_reducible first | refine SW.seq ?_ | refine SW.block ?_ | refine SW.rowC ?_ | refine SW.skip ?_ | refine SW.exit ?_ | intro _ | refine And.intro (by omega) ?_) | simp (config := { maxSteps := 1000000 }) (disch := (first | omega | (simp only [go_sem]; try omega))) only [go_sem, Nat.reduceAdd, Nat.reduceEqDiff, Nat.reduceLeDiff, Nat.reduceMul, Nat.reduceLT, reduceIte, Int.reduceToNat, w64_id, cast_succ])
      refine SW.ret ?_
      refine FunPost.cell_tmp (cs := [I 0, nilS]) (by simp (config := { maxSteps := 1000000 }) (disch := (first | omega | (simp only [go_sem]; try omega))) only [go_sem, Nat.reduceAdd, Nat.reduceEqDiff, Nat.reduceLeDiff, Nat.reduceMul, Nat.reduceLT, reduceIte, Int.reduceToNat, w64_id, cast_succ]) (GR.of ⟨_, nilS, rfl, rfl, .inr ⟨rfl, .inl rfl⟩⟩)
  have e2 : ((p : Int) * (e : Int)) = ((p * e : Nat) : Int) := by simp
  have hpe : p * e ≤ 32 * 32 := Nat.mul_le_mul (by omega) (by omega)
  have d5 : decide (((0 : Nat) : Int) = 0) = true := rfl
  by_cases a4 : p * e ≤ 720
  rotate_left
  · have d6 : decide ((720 : Int) < ((p * e : Nat) : Int)) = true := decide_eq_true (by omega)
    refine ⟨0, 5, [], by simp [total], fun H => ?_, fun H => ?_⟩
    · refine ACalls.introB s_spec_FrobeniusGroup (by simp) ?_; intro hB hA; unfold c_spec_FrobeniusGroup; simp (config := { maxSteps := 1000000 }) (disch := (first | omega | (simp only [go_sem]; try omega))) only [go_sem, Nat.reduceAdd, Nat.reduceEqDiff, Nat.reduceLeDiff, Nat.reduceMul, Nat.reduceLT, reduceIte, Int.reduceToNat, w64_id, cast_succ]
      repeat (first | (with_reducible first | refine SW.seq ?_ | refine SW.block ?_ | refine SW.rowC ?_ | refine SW.skip ?_ | refine SW.exit ?_ | refine PFn.use (specIsPrime_fn _) ?_ | refine PFn.useq (specIsPrime_fn _) ?_ | refine PFn.use (l00In_fn _ _ _) ?_ | refine PFn.useq (l00In_fn _ _ _) ?_ | intro _ | refine And.intro (by omega) ?_) | simp (config := { maxSteps := 1000000 }) (disch := (first | omega | (simp only [go_sem]; try omega))) only [go_sem, Nat.reduceAdd, Nat.reduceEqDiff, Nat.reduceLeDiff, Nat.reduceMul, Nat.reduceLT, reduceIte, Int.reduceToNat, w64_id, cast_succ, hpr, d1, e1, d3, tmodN, a3, d5, e2, d6])
      refine SW.condF rfl ?_
      repeat (first | (with_reducible first | refine SW.seq ?_ | refine SW.block ?_ | refine SW.rowC ?_ | refine SW.skip ?_ | refine SW.exit ?_ | intro _ | refine And.intro (by omega) ?_) | simp (config := { maxSteps := 1000000 }) (disch := (first | omega | (simp only [go_sem]; try omega))) only [go_sem, Nat.reduceAdd, Nat.reduceEqDiff, Nat.reduceLeDiff, Nat.reduceMul, Nat.reduceLT, reduceIte, Int.reduceToNat, w64_id, cast_succ, hpr, d1, e1, d3, tmodN, a3, d5, e2, d6])
      refine SW.condT rfl ?_
      repeat (first | (with_reducible first | refine SW.seq ?_ | refine SW.block ?_ | refine SW.rowC ?_ | refine SW.skip ?_ | refine SW.exit ?_ | intro _ | refine And.intro (by omega) ?_) | simp (config := { maxSteps := 1000000 }) (disch := (first | omega | (simp only [go_sem]; try omega))) only [go_sem, Nat.reduceAdd, Nat.reduceEqDiff, Nat.reduceLeDiff, Nat.reduceMul, Nat.reduceLT, reduceIte, Int.reduceToNat, w64_id, cast_succ])
      refine SW.ret ?_
      refine FunPost.cell_tmp (cs := [I 0, nilS]) (by simp (config := { maxSteps := 1000000 }) (disch := (first | omega | (simp only [go_sem]; try omega))) only [go_sem, Nat.reduceAdd, Nat.reduceEqDiff, Nat.reduceLeDiff, Nat.reduceMul, Nat.reduceLT, reduceIte, Int.reduceToNat, w64_id, cast_succ]) (GR.drop (ext := [_]) ?_ ?_)
      · (try simp (config := { maxSteps := 1000000 }) (disch := (first | omega | (simp only [go_sem]; try omega))) only [go_sem, Nat.reduceAdd, Nat.reduceEqDiff, Nat.reduceLeDiff, Nat.reduceMul, Nat.reduceLT, reduceIte, Int.reduceToNat, w64_id, cast_succ])
        (try (simp only [go_sem, Nat.reduceAdd, Nat.reduceEqDiff, reduceIte, go_sem, and_self, and_true, true_and, implies_true, List.take_succ_cons, List.take_zero, and_true, true_and]; try omega))
      · exact ⟨⟨nilS, rfl, rfl, rfl, fun H => ⟨[], rfl, rfl, fun j c xs h => by simp at h⟩⟩, rfl⟩
    · refine ACalls.introB s_impl_FrobeniusGroup (by simp) ?_; intro hB hA; unfold c_impl_FrobeniusGroup; simp (config := { maxSteps := 1000000 }) (disch := (first | omega | (simp only [go_sem]; try omega))) only [go_sem, Nat.reduceAdd, Nat.reduceEqDiff, Nat.reduceLeDiff, Nat.reduceMul, Nat.reduceLT, reduceIte, Int.reduceToNat, w64_id, cast_succ]
      repeat (first | (with_reducible first | refine SW.seq ?_ | refine SW.block ?_ | refine SW.rowC ?_ | refine SW.skip ?_ | refine SW.exit ?_ | refine PFn.use (hip) ?_ | refine PFn.useq (hip) ?_ | refine PFn.use (within_fn _ _ _) ?_ | refine PFn.useq (within_fn _ _ _) ?_ | intro _ | refine And.intro (by omega) ?_) | simp (config := { maxSteps := 1000000 }) (disch := (first | omega | (simp only [go_sem]; try omega))) only [go_sem, Nat.reduceAdd, Nat.reduceEqDiff, Nat.reduceLeDiff, Nat.reduceMul, Nat.reduceLT, reduceIte, Int.reduceToNat, w64_id, cast_succ, d1, e1, d3, tmodN, a3, d5, e2, d6])
      refine SW.condF rfl ?_
      repeat (first | (with_reducible first | refine SW.seq ?_ | refine SW.block ?_ | refine SW.rowC ?_ | refine SW.skip ?_ | refine SW.exit ?_ | intro _ | refine And.intro (by omega) ?_) | simp (config := { maxSteps := 1000000 }) (disch := (first | omega | (simp only [go_sem]; try omega))) only [go_sem, Nat.reduceAdd, Nat.reduceEqDiff, Nat.reduceLeDiff, Nat.reduceMul, Nat.reduceLT, reduceIte, Int.reduceToNat, w64_id, cast_succ, d1, e1, d3, tmodN, a3, d5, e2, d6])
      refine SW.condT rfl ?_
      repeat (first | (with_reducible first | refine SW.seq ?_ | refine SW.block ?_ | refine SW.rowC ?_ | refine SW.skip ?_ | refine SW.exit ?_ | intro _ | refine And.intro (by omega) ?_) | simp (config := { maxSteps := 1000000 }) (disch := (first | omega | (simp only [go_sem]; try omega))) only [go_sem, Nat.reduceAdd, Nat.reduceEqDiff, Nat.reduceLeDiff, Nat.reduceMul, Nat.reduceLT, reduceIte, Int.reduceToNat, w64_id, cast_succ])
      refine SW.ret ?_
      refine FunPost.cell_tmp (cs := [I 0, nilS]) (by simp (config := { maxSteps := 1000000 }) (disch := (first | omega | (simp only [go_sem]; try omega))) only [go_sem, Nat.reduceAdd, Nat.reduceEqDiff, Nat.reduceLeDiff, Nat.reduceMul, Nat.reduceLT, reduceIte, Int.reduceToNat, w64_id, cast_succ]) (GR.of ⟨_, nilS, rfl, rfl, .inr ⟨rfl, .inl rfl⟩⟩)
  refine ⟨p, 0, _, aff_small p (frobS p e p) (by omega) (by have := frobS_len p e p; omega), fun H => ?_, fun H => implFrob_ok H p e (by omega) (by omega) hpr (by omega) (by omega) a3 a4⟩
  refine (specFrob_ok H p e (by omega) (by omega) hpr (by omega) (by omega) a3 a4).mono ?_
  rintro r H' ⟨rfl, rfl⟩
  exact ⟨⟨_, rfl, rfl, rfl, fun H => rd_ilSS H _⟩, rfl⟩

theorem lawFrob_ok (H : List Blk) (n n2 : Int) : ACalls Try.prog f_laws_FnExactFrobeniusGroup [I n, I n2] H (fun r _ => r = Bv true) := by
  obtain ⟨items, code, xss, hsmall, hspec, himpl⟩ := frobA n n2
  refine ACalls.intro s_laws_FnExactFrobeniusGroup (by simp) ?_
  refine SW.seq ?_; refine SW.row ?_; simp only [go_sem, Nat.reduceAdd, Nat.reduceEqDiff, Nat.reduceLeDiff, Nat.reduceMul, reduceIte, Nat.zero_ne_one, Nat.one_ne_zero, Nat.zero_add, Nat.add_zero, List.map_cons, List.map_nil, List.length_cons, List.length_nil, decide_true, decide_false, Bool.not_true, Bool.not_false, true_and, and_true, ne_eq, not_true_eq_false, not_false_eq_true, forall_const, List.getElem?_cons_zero, List.getElem?_cons_succ]
  refine SW.seq ?_; refine SW.row ?_; simp only [go_sem, Nat.reduceAdd, Nat.reduceEqDiff, Nat.reduceLeDiff, Nat.reduceMul, reduceIte, Nat.zero_ne_one, Nat.one_ne_zero, Nat.zero_add, Nat.add_zero, List.map_cons, List.map_nil, List.length_cons, List.length_nil, decide_true, decide_false, Bool.not_true, Bool.not_false, true_and, and_true, ne_eq, not_true_eq_false, not_false_eq_true, forall_const, List.getElem?_cons_zero, List.getElem?_cons_succ]
  refine (hspec _).mono ?_
  rintro r H' ⟨⟨w, rfl, w1, w2, w3⟩, rfl⟩
  simp only [go_sem, Nat.reduceAdd, Nat.reduceEqDiff, Nat.reduceLeDiff, Nat.reduceMul, reduceIte, Nat.zero_ne_one, Nat.one_ne_zero, Nat.zero_add, Nat.add_zero, List.map_cons, List.map_nil, List.length_cons, List.length_nil, decide_true, decide_false, Bool.not_true, Bool.not_false, true_and, and_true, ne_eq, not_true_eq_false, not_false_eq_true, forall_const, List.getElem?_cons_zero, List.getElem?_cons_succ, List.all_nil, List.all_cons, List.length_set, List.append_assoc, List.cons_append, List.nil_append, List.length_append, List.length_set, List.set_cons_zero, List.set_cons_succ, acell1_own, acell1_own0, alive_own, alive_own0, acells_own, acells_own0, astore_own, astore_own0, aview_own, aview_own0, PcL_some, PcV_some, PcG_some, PcS_some, NmV_some, setMany_nil, setMany_cons, partsOf_agg, cell1_nm, cell1_nil, cell1_il, cell1_Bv, cell1_pc, partsOf_nm, partsOf_il, partsOf_nil, partsOf_Bv, afill_nil, afill_cons, List.drop_zero, List.drop_succ_cons, List.take_succ_cons, List.take_zero, List.take_nil, and_self, Nat.le_refl, w1]
  refine SW.seq ?_; refine SW.row ?_; simp only [go_sem, Nat.reduceAdd, Nat.reduceEqDiff, Nat.reduceLeDiff, Nat.reduceMul, reduceIte, Nat.zero_ne_one, Nat.one_ne_zero, Nat.zero_add, Nat.add_zero, List.map_cons, List.map_nil, List.length_cons, List.length_nil, decide_true, decide_false, Bool.not_true, Bool.not_false, true_and, and_true, ne_eq, not_true_eq_false, not_false_eq_true, forall_const, List.getElem?_cons_zero, List.getElem?_cons_succ, List.all_nil, List.all_cons, List.length_set, List.append_assoc, List.cons_append, List.nil_append, List.length_append, List.length_set, List.set_cons_zero, List.set_cons_succ, acell1_own, acell1_own0, alive_own, alive_own0, acells_own, acells_own0, astore_own, astore_own0, aview_own, aview_own0, PcL_some, PcV_some, PcG_some, PcS_some, NmV_some, setMany_nil, setMany_cons, partsOf_agg, cell1_nm, cell1_nil, cell1_il, cell1_Bv, cell1_pc, partsOf_nm, partsOf_il, partsOf_nil, partsOf_Bv, afill_nil, afill_cons, List.drop_zero, List.drop_succ_cons, List.take_succ_cons, List.take_zero, List.take_nil, and_self, Nat.le_refl]
  refine (himpl _).mono ?_
  rintro r H1 ⟨ext, v, hH1, rfl, own⟩
  have pw := get_appB1 (show (H' ++ [⟨0, tyG, 1, [I items, w]⟩])[H'.length]? = some ⟨0, tyG, 1, [I items, w]⟩ by simp) ext
  rw [← hH1] at pw
  simp only [go_sem, Nat.reduceAdd, Nat.reduceEqDiff, Nat.reduceLeDiff, Nat.reduceMul, reduceIte, Nat.zero_ne_one, Nat.one_ne_zero, Nat.zero_add, Nat.add_zero, List.map_cons, List.map_nil, List.length_cons, List.length_nil, decide_true, decide_false, Bool.not_true, Bool.not_false, true_and, and_true, ne_eq, not_true_eq_false, not_false_eq_true, forall_const, List.getElem?_cons_zero, List.getElem?_cons_succ, List.all_nil, List.all_cons, List.length_set, List.append_assoc, List.cons_append, List.nil_append, List.length_append, List.length_set, List.set_cons_zero, List.set_cons_succ, acell1_own, acell1_own0, alive_own, alive_own0, acells_own, acells_own0, astore_own, astore_own0, aview_own, aview_own0, PcL_some, PcV_some, PcG_some, PcS_some, NmV_some, setMany_nil, setMany_cons, partsOf_agg, cell1_nm, cell1_nil, cell1_il, cell1_Bv, cell1_pc, partsOf_nm, partsOf_il, partsOf_nil, partsOf_Bv, afill_nil, afill_cons, List.drop_zero, List.drop_succ_cons, List.take_succ_cons, List.take_zero, List.take_nil, and_self, Nat.le_refl, own.cell1B]
  have pg : (H1 ++ [⟨0, tyG, 1, [I items, v]⟩])[H1.length]? = some ⟨0, tyG, 1, [I items, v]⟩ := by simp
  replace pw := get_appB1 pw [⟨0, tyG, 1, [I items, v]⟩]
  replace own := own.append [⟨0, tyG, 1, [I items, v]⟩]
  have hlt : H'.length < H1.length := by rw [hH1]; simp
  clear hH1
  generalize hg : H1.length = g at *
  generalize hH2 : H1 ++ [⟨0, tyG, 1, [I items, v]⟩] = H2 at *
  have hg2 := (List.getElem?_eq_some_iff.1 pg).1
  have hb : (H' ++ [(⟨0, tyG, 1, [I items, w]⟩ : Blk)]).length = H'.length + 1 := by simp
  rw [hb] at own
  clear hH2 hg hb
  -- the first comparison
  refine SW.seq ?_; refine SW.seq ?_; refine SW.row ?_; simp only [go_sem, Nat.reduceAdd, Nat.reduceEqDiff, Nat.reduceLeDiff, Nat.reduceMul, reduceIte, Nat.zero_ne_one, Nat.one_ne_zero, Nat.zero_add, Nat.add_zero, List.map_cons, List.map_nil, List.length_cons, List.length_nil, decide_true, decide_false, Bool.not_true, Bool.not_false, true_and, and_true, ne_eq, not_true_eq_false, not_false_eq_true, forall_const, List.getElem?_cons_zero, List.getElem?_cons_succ, List.all_nil, List.all_cons, List.length_set, List.append_assoc, List.cons_append, List.nil_append, List.length_append, List.length_set, List.set_cons_zero, List.set_cons_succ, acell1_own, acell1_own0, alive_own, alive_own0, acells_own, acells_own0, astore_own, astore_own0, aview_own, aview_own0, PcL_some, PcV_some, PcG_some, PcS_some, NmV_some, setMany_nil, setMany_cons, partsOf_agg, cell1_nm, cell1_nil, cell1_il, cell1_Bv, cell1_pc, partsOf_nm, partsOf_il, partsOf_nil, partsOf_Bv, afill_nil, afill_cons, List.drop_zero, List.drop_succ_cons, List.take_succ_cons, List.take_zero, List.take_nil, and_self, Nat.le_refl, pc_lds pg, pc_lds pw]
  refine ACalls.fn (eqGroup_ok _ items items v w xss xss own.cell1B.1 w1 own.rd (w3 _)) ?_
  simp only [go_sem, Nat.reduceAdd, Nat.reduceEqDiff, Nat.reduceLeDiff, Nat.reduceMul, reduceIte, Nat.zero_ne_one, Nat.one_ne_zero, Nat.zero_add, Nat.add_zero, List.map_cons, List.map_nil, List.length_cons, List.length_nil, decide_true, decide_false, Bool.not_true, Bool.not_false, true_and, and_true, ne_eq, not_true_eq_false, not_false_eq_true, forall_const, List.getElem?_cons_zero, List.getElem?_cons_succ, Bool.and_self]
  refine SW.cond rfl (fun h => ?_) (fun h => ?_)
  · exact absurd h (by simp)
  clear h
  refine SW.skip ?_; simp only [go_sem, Nat.reduceAdd, Nat.reduceEqDiff, Nat.reduceLeDiff, Nat.reduceMul, reduceIte, Nat.zero_ne_one, Nat.one_ne_zero, Nat.zero_add, Nat.add_zero, List.map_cons, List.map_nil, List.length_cons, List.length_nil, decide_true, decide_false, Bool.not_true, Bool.not_false, true_and, and_true, ne_eq, not_true_eq_false, not_false_eq_true, forall_const, List.getElem?_cons_zero, List.getElem?_cons_succ]
  refine SW.seq ?_; refine SW.row ?_; simp only [go_sem, Nat.reduceAdd, Nat.reduceEqDiff, Nat.reduceLeDiff, Nat.reduceMul, reduceIte, Nat.zero_ne_one, Nat.one_ne_zero, Nat.zero_add, Nat.add_zero, List.map_cons, List.map_nil, List.length_cons, List.length_nil, decide_true, decide_false, Bool.not_true, Bool.not_false, true_and, and_true, ne_eq, not_true_eq_false, not_false_eq_true, forall_const, List.getElem?_cons_zero, List.getElem?_cons_succ]
  -- marked
  refine SW.seq ?_; refine SW.row ?_; simp only [go_sem, Nat.reduceAdd, Nat.reduceEqDiff, Nat.reduceLeDiff, Nat.reduceMul, reduceIte, Nat.zero_ne_one, Nat.one_ne_zero, Nat.zero_add, Nat.add_zero, List.map_cons, List.map_nil, List.length_cons, List.length_nil, decide_true, decide_false, Bool.not_true, Bool.not_false, true_and, and_true, ne_eq, not_true_eq_false, not_false_eq_true, forall_const, List.getElem?_cons_zero, List.getElem?_cons_succ, List.all_nil, List.all_cons, List.length_set, List.append_assoc, List.cons_append, List.nil_append, List.length_append, List.length_set, List.set_cons_zero, List.set_cons_succ, acell1_own, acell1_own0, alive_own, alive_own0, acells_own, acells_own0, astore_own, astore_own0, aview_own, aview_own0, PcL_some, PcV_some, PcG_some, PcS_some, NmV_some, setMany_nil, setMany_cons, partsOf_agg, cell1_nm, cell1_nil, cell1_il, cell1_Bv, cell1_pc, partsOf_nm, partsOf_il, partsOf_nil, partsOf_Bv, afill_nil, afill_cons, List.drop_zero, List.drop_succ_cons, List.take_succ_cons, List.take_zero, List.take_nil, and_self, Nat.le_refl, pc_lds pg]
  refine (markGroup_ok _ _ items 1 v xss own.cell1B.1 own (by omega) (by omega)).mono ?_
  rintro r H3 ⟨rfl, own3, g1, g2⟩
  simp only [go_sem, Nat.reduceAdd, Nat.reduceEqDiff, Nat.reduceLeDiff, Nat.reduceMul, reduceIte, Nat.zero_ne_one, Nat.one_ne_zero, Nat.zero_add, Nat.add_zero, List.map_cons, List.map_nil, List.length_cons, List.length_nil, decide_true, decide_false, Bool.not_true, Bool.not_false, true_and, and_true, ne_eq, not_true_eq_false, not_false_eq_true, forall_const, List.getElem?_cons_zero, List.getElem?_cons_succ]
  replace pw : H3[H'.length]? = _ := (g2 _ (by unfold Btw; omega) (by omega)).trans pw
  replace pg : H3[g]? = _ := (g2 _ (by unfold Btw; omega) (by omega)).trans pg
  have hg3 := (List.getElem?_eq_some_iff.1 pg).1
  clear own g1 g2 hg2
  refine SW.seq ?_; refine SW.row ?_; simp only [go_sem, Nat.reduceAdd, Nat.reduceEqDiff, Nat.reduceLeDiff, Nat.reduceMul, reduceIte, Nat.zero_ne_one, Nat.one_ne_zero, Nat.zero_add, Nat.add_zero, List.map_cons, List.map_nil, List.length_cons, List.length_nil, decide_true, decide_false, Bool.not_true, Bool.not_false, true_and, and_true, ne_eq, not_true_eq_false, not_false_eq_true, forall_const, List.getElem?_cons_zero, List.getElem?_cons_succ]
  -- held
  refine SW.seq ?_; refine SW.row ?_; simp only [go_sem, Nat.reduceAdd, Nat.reduceEqDiff, Nat.reduceLeDiff, Nat.reduceMul, reduceIte, Nat.zero_ne_one, Nat.one_ne_zero, Nat.zero_add, Nat.add_zero, List.map_cons, List.map_nil, List.length_cons, List.length_nil, decide_true, decide_false, Bool.not_true, Bool.not_false, true_and, and_true, ne_eq, not_true_eq_false, not_false_eq_true, forall_const, List.getElem?_cons_zero, List.getElem?_cons_succ, List.all_nil, List.all_cons, List.length_set, List.append_assoc, List.cons_append, List.nil_append, List.length_append, List.length_set, List.set_cons_zero, List.set_cons_succ, acell1_own, acell1_own0, alive_own, alive_own0, acells_own, acells_own0, astore_own, astore_own0, aview_own, aview_own0, PcL_some, PcV_some, PcG_some, PcS_some, NmV_some, setMany_nil, setMany_cons, partsOf_agg, cell1_nm, cell1_nil, cell1_il, cell1_Bv, cell1_pc, partsOf_nm, partsOf_il, partsOf_nil, partsOf_Bv, afill_nil, afill_cons, List.drop_zero, List.drop_succ_cons, List.take_succ_cons, List.take_zero, List.take_nil, and_self, Nat.le_refl, pc_lds pg]
  refine ACalls.fn (heldGroup_ok _ items 1 v xss own3.cell1B.1 own3.rd (by omega) (by omega)) ?_
  simp only [go_sem, Nat.reduceAdd, Nat.reduceEqDiff, Nat.reduceLeDiff, Nat.reduceMul, reduceIte, Nat.zero_ne_one, Nat.one_ne_zero, Nat.zero_add, Nat.add_zero, List.map_cons, List.map_nil, List.length_cons, List.length_nil, decide_true, decide_false, Bool.not_true, Bool.not_false, true_and, and_true, ne_eq, not_true_eq_false, not_false_eq_true, forall_const, List.getElem?_cons_zero, List.getElem?_cons_succ]
  refine SW.seq ?_; refine SW.seq ?_; refine SW.row ?_; simp only [go_sem, Nat.reduceAdd, Nat.reduceEqDiff, Nat.reduceLeDiff, Nat.reduceMul, reduceIte, Nat.zero_ne_one, Nat.one_ne_zero, Nat.zero_add, Nat.add_zero, List.map_cons, List.map_nil, List.length_cons, List.length_nil, decide_true, decide_false, Bool.not_true, Bool.not_false, true_and, and_true, ne_eq, not_true_eq_false, not_false_eq_true, forall_const, List.getElem?_cons_zero, List.getElem?_cons_succ]; (first | refine SW.cond rfl (fun h => ?_) (fun h => ?_) | (intro _; refine SW.cond rfl (fun h => ?_) (fun h => ?_)) | (intro _ _; refine SW.cond rfl (fun h => ?_) (fun h => ?_)))
  · exfalso
    have := of_decide_eq_true h
    omega
  clear h
  refine SW.skip ?_; simp only [go_sem, Nat.reduceAdd, Nat.reduceEqDiff, Nat.reduceLeDiff, Nat.reduceMul, reduceIte, Nat.zero_ne_one, Nat.one_ne_zero, Nat.zero_add, Nat.add_zero, List.map_cons, List.map_nil, List.length_cons, List.length_nil, decide_true, decide_false, Bool.not_true, Bool.not_false, true_and, and_true, ne_eq, not_true_eq_false, not_false_eq_true, forall_const, List.getElem?_cons_zero, List.getElem?_cons_succ]
  refine SW.seq ?_; refine SW.seq ?_; refine SW.row ?_; simp only [go_sem, Nat.reduceAdd, Nat.reduceEqDiff, Nat.reduceLeDiff, Nat.reduceMul, reduceIte, Nat.zero_ne_one, Nat.one_ne_zero, Nat.zero_add, Nat.add_zero, List.map_cons, List.map_nil, List.length_cons, List.length_nil, decide_true, decide_false, Bool.not_true, Bool.not_false, true_and, and_true, ne_eq, not_true_eq_false, not_false_eq_true, forall_const, List.getElem?_cons_zero, List.getElem?_cons_succ]; (first | refine SW.cond rfl (fun h => ?_) (fun h => ?_) | (intro _; refine SW.cond rfl (fun h => ?_) (fun h => ?_)) | (intro _ _; refine SW.cond rfl (fun h => ?_) (fun h => ?_)))
  · exact absurd h (by simp)
  clear h
  refine SW.skip ?_; simp only [go_sem, Nat.reduceAdd, Nat.reduceEqDiff, Nat.reduceLeDiff, Nat.reduceMul, reduceIte, Nat.zero_ne_one, Nat.one_ne_zero, Nat.zero_add, Nat.add_zero, List.map_cons, List.map_nil, List.length_cons, List.length_nil, decide_true, decide_false, Bool.not_true, Bool.not_false, true_and, and_true, ne_eq, not_true_eq_false, not_false_eq_true, forall_const, List.getElem?_cons_zero, List.getElem?_cons_succ]
  -- called again
  refine SW.seq ?_; refine SW.row ?_; simp only [go_sem, Nat.reduceAdd, Nat.reduceEqDiff, Nat.reduceLeDiff, Nat.reduceMul, reduceIte, Nat.zero_ne_one, Nat.one_ne_zero, Nat.zero_add, Nat.add_zero, List.map_cons, List.map_nil, List.length_cons, List.length_nil, decide_true, decide_false, Bool.not_true, Bool.not_false, true_and, and_true, ne_eq, not_true_eq_false, not_false_eq_true, forall_const, List.getElem?_cons_zero, List.getElem?_cons_succ, List.all_nil, List.all_cons, List.length_set, List.append_assoc, List.cons_append, List.nil_append, List.length_append, List.length_set, List.set_cons_zero, List.set_cons_succ, acell1_own, acell1_own0, alive_own, alive_own0, acells_own, acells_own0, astore_own, astore_own0, aview_own, aview_own0, PcL_some, PcV_some, PcG_some, PcS_some, NmV_some, setMany_nil, setMany_cons, partsOf_agg, cell1_nm, cell1_nil, cell1_il, cell1_Bv, cell1_pc, partsOf_nm, partsOf_il, partsOf_nil, partsOf_Bv, afill_nil, afill_cons, List.drop_zero, List.drop_succ_cons, List.take_succ_cons, List.take_zero, List.take_nil, and_self, Nat.le_refl]
  refine (himpl _).mono ?_
  rintro r H4 ⟨ext2, v', hH4, rfl, own4⟩
  simp only [go_sem, Nat.reduceAdd, Nat.reduceEqDiff, Nat.reduceLeDiff, Nat.reduceMul, reduceIte, Nat.zero_ne_one, Nat.one_ne_zero, Nat.zero_add, Nat.add_zero, List.map_cons, List.map_nil, List.length_cons, List.length_nil, decide_true, decide_false, Bool.not_true, Bool.not_false, true_and, and_true, ne_eq, not_true_eq_false, not_false_eq_true, forall_const, List.getElem?_cons_zero, List.getElem?_cons_succ, List.all_nil, List.all_cons, List.length_set, List.append_assoc, List.cons_append, List.nil_append, List.length_append, List.length_set, List.set_cons_zero, List.set_cons_succ, acell1_own, acell1_own0, alive_own, alive_own0, acells_own, acells_own0, astore_own, astore_own0, aview_own, aview_own0, PcL_some, PcV_some, PcG_some, PcS_some, NmV_some, setMany_nil, setMany_cons, partsOf_agg, cell1_nm, cell1_nil, cell1_il, cell1_Bv, cell1_pc, partsOf_nm, partsOf_il, partsOf_nil, partsOf_Bv, afill_nil, afill_cons, List.drop_zero, List.drop_succ_cons, List.take_succ_cons, List.take_zero, List.take_nil, and_self, Nat.le_refl, own4.cell1B]
  replace pw := get_appB1 pw ext2
  replace pg := get_appB1 pg ext2
  replace own3 := own3.append ext2
  rw [← hH4] at pw pg own3
  have ph : (H4 ++ [⟨0, tyG, 1, [I items, v']⟩])[H4.length]? = some ⟨0, tyG, 1, [I items, v']⟩ := by simp
  replace pw := get_appB1 pw [⟨0, tyG, 1, [I items, v']⟩]
  replace pg := get_appB1 pg [⟨0, tyG, 1, [I items, v']⟩]
  replace own3 := own3.append [⟨0, tyG, 1, [I items, v']⟩]
  replace own4 := own4.append [⟨0, tyG, 1, [I items, v']⟩]
  generalize H4.length = q at *
  generalize H4 ++ [⟨0, tyG, 1, [I items, v']⟩] = H5 at *
  refine SW.seq ?_; refine SW.seq ?_; refine SW.row ?_; simp only [go_sem, Nat.reduceAdd, Nat.reduceEqDiff, Nat.reduceLeDiff, Nat.reduceMul, reduceIte, Nat.zero_ne_one, Nat.one_ne_zero, Nat.zero_add, Nat.add_zero, List.map_cons, List.map_nil, List.length_cons, List.length_nil, decide_true, decide_false, Bool.not_true, Bool.not_false, true_and, and_true, ne_eq, not_true_eq_false, not_false_eq_true, forall_const, List.getElem?_cons_zero, List.getElem?_cons_succ, List.all_nil, List.all_cons, List.length_set, List.append_assoc, List.cons_append, List.nil_append, List.length_append, List.length_set, List.set_cons_zero, List.set_cons_succ, acell1_own, acell1_own0, alive_own, alive_own0, acells_own, acells_own0, astore_own, astore_own0, aview_own, aview_own0, PcL_some, PcV_some, PcG_some, PcS_some, NmV_some, setMany_nil, setMany_cons, partsOf_agg, cell1_nm, cell1_nil, cell1_il, cell1_Bv, cell1_pc, partsOf_nm, partsOf_il, partsOf_nil, partsOf_Bv, afill_nil, afill_cons, List.drop_zero, List.drop_succ_cons, List.take_succ_cons, List.take_zero, List.take_nil, and_self, Nat.le_refl, pc_lds ph, pc_lds pw]
  refine ACalls.fn (eqGroup_ok _ items items v' w xss xss own4.cell1B.1 w1 own4.rd (w3 _)) ?_
  simp only [go_sem, Nat.reduceAdd, Nat.reduceEqDiff, Nat.reduceLeDiff, Nat.reduceMul, reduceIte, Nat.zero_ne_one, Nat.one_ne_zero, Nat.zero_add, Nat.add_zero, List.map_cons, List.map_nil, List.length_cons, List.length_nil, decide_true, decide_false, Bool.not_true, Bool.not_false, true_and, and_true, ne_eq, not_true_eq_false, not_false_eq_true, forall_const, List.getElem?_cons_zero, List.getElem?_cons_succ, Bool.and_self]
  refine SW.cond rfl (fun h => ?_) (fun h => ?_)
  · exact absurd h (by simp)
  clear h
  refine SW.skip ?_; simp only [go_sem, Nat.reduceAdd, Nat.reduceEqDiff, Nat.reduceLeDiff, Nat.reduceMul, reduceIte, Nat.zero_ne_one, Nat.one_ne_zero, Nat.zero_add, Nat.add_zero, List.map_cons, List.map_nil, List.length_cons, List.length_nil, decide_true, decide_false, Bool.not_true, Bool.not_false, true_and, and_true, ne_eq, not_true_eq_false, not_false_eq_true, forall_const, List.getElem?_cons_zero, List.getElem?_cons_succ]
  refine SW.seq ?_; refine SW.row ?_; simp only [go_sem, Nat.reduceAdd, Nat.reduceEqDiff, Nat.reduceLeDiff, Nat.reduceMul, reduceIte, Nat.zero_ne_one, Nat.one_ne_zero, Nat.zero_add, Nat.add_zero, List.map_cons, List.map_nil, List.length_cons, List.length_nil, decide_true, decide_false, Bool.not_true, Bool.not_false, true_and, and_true, ne_eq, not_true_eq_false, not_false_eq_true, forall_const, List.getElem?_cons_zero, List.getElem?_cons_succ]
  refine SW.seq ?_; refine SW.row ?_; simp only [go_sem, Nat.reduceAdd, Nat.reduceEqDiff, Nat.reduceLeDiff, Nat.reduceMul, reduceIte, Nat.zero_ne_one, Nat.one_ne_zero, Nat.zero_add, Nat.add_zero, List.map_cons, List.map_nil, List.length_cons, List.length_nil, decide_true, decide_false, Bool.not_true, Bool.not_false, true_and, and_true, ne_eq, not_true_eq_false, not_false_eq_true, forall_const, List.getElem?_cons_zero, List.getElem?_cons_succ, List.all_nil, List.all_cons, List.length_set, List.append_assoc, List.cons_append, List.nil_append, List.length_append, List.length_set, List.set_cons_zero, List.set_cons_succ, acell1_own, acell1_own0, alive_own, alive_own0, acells_own, acells_own0, astore_own, astore_own0, aview_own, aview_own0, PcL_some, PcV_some, PcG_some, PcS_some, NmV_some, setMany_nil, setMany_cons, partsOf_agg, cell1_nm, cell1_nil, cell1_il, cell1_Bv, cell1_pc, partsOf_nm, partsOf_il, partsOf_nil, partsOf_Bv, afill_nil, afill_cons, List.drop_zero, List.drop_succ_cons, List.take_succ_cons, List.take_zero, List.take_nil, and_self, Nat.le_refl, pc_lds pg]
  refine ACalls.fn (heldGroup_ok _ items 1 v xss own3.cell1B.1 own3.rd (by omega) (by omega)) ?_
  simp only [go_sem, Nat.reduceAdd, Nat.reduceEqDiff, Nat.reduceLeDiff, Nat.reduceMul, reduceIte, Nat.zero_ne_one, Nat.one_ne_zero, Nat.zero_add, Nat.add_zero, List.map_cons, List.map_nil, List.length_cons, List.length_nil, decide_true, decide_false, Bool.not_true, Bool.not_false, true_and, and_true, ne_eq, not_true_eq_false, not_false_eq_true, forall_const, List.getElem?_cons_zero, List.getElem?_cons_succ]
  refine SW.seq ?_; refine SW.seq ?_; refine SW.row ?_; simp only [go_sem, Nat.reduceAdd, Nat.reduceEqDiff, Nat.reduceLeDiff, Nat.reduceMul, reduceIte, Nat.zero_ne_one, Nat.one_ne_zero, Nat.zero_add, Nat.add_zero, List.map_cons, List.map_nil, List.length_cons, List.length_nil, decide_true, decide_false, Bool.not_true, Bool.not_false, true_and, and_true, ne_eq, not_true_eq_false, not_false_eq_true, forall_const, List.getElem?_cons_zero, List.getElem?_cons_succ]; (first | refine SW.cond rfl (fun h => ?_) (fun h => ?_) | (intro _; refine SW.cond rfl (fun h => ?_) (fun h => ?_)) | (intro _ _; refine SW.cond rfl (fun h => ?_) (fun h => ?_)))
  · exfalso
    have := of_decide_eq_true h
    omega
  clear h
  refine SW.skip ?_; simp only [go_sem, Nat.reduceAdd, Nat.reduceEqDiff, Nat.reduceLeDiff, Nat.reduceMul, reduceIte, Nat.zero_ne_one, Nat.one_ne_zero, Nat.zero_add, Nat.add_zero, List.map_cons, List.map_nil, List.length_cons, List.length_nil, decide_true, decide_false, Bool.not_true, Bool.not_false, true_and, and_true, ne_eq, not_true_eq_false, not_false_eq_true, forall_const, List.getElem?_cons_zero, List.getElem?_cons_succ]
  refine SW.seq ?_; refine SW.seq ?_; refine SW.row ?_; simp only [go_sem, Nat.reduceAdd, Nat.reduceEqDiff, Nat.reduceLeDiff, Nat.reduceMul, reduceIte, Nat.zero_ne_one, Nat.one_ne_zero, Nat.zero_add, Nat.add_zero, List.map_cons, List.map_nil, List.length_cons, List.length_nil, decide_true, decide_false, Bool.not_true, Bool.not_false, true_and, and_true, ne_eq, not_true_eq_false, not_false_eq_true, forall_const, List.getElem?_cons_zero, List.getElem?_cons_succ]; (first | refine SW.cond rfl (fun h => ?_) (fun h => ?_) | (intro _; refine SW.cond rfl (fun h => ?_) (fun h => ?_)) | (intro _ _; refine SW.cond rfl (fun h => ?_) (fun h => ?_)))
  · exact absurd h (by simp)
  clear h
  refine SW.skip ?_; simp only [go_sem, Nat.reduceAdd, Nat.reduceEqDiff, Nat.reduceLeDiff, Nat.reduceMul, reduceIte, Nat.zero_ne_one, Nat.one_ne_zero, Nat.zero_add, Nat.add_zero, List.map_cons, List.map_nil, List.length_cons, List.length_nil, decide_true, decide_false, Bool.not_true, Bool.not_false, true_and, and_true, ne_eq, not_true_eq_false, not_false_eq_true, forall_const, List.getElem?_cons_zero, List.getElem?_cons_succ]
  refine SW.seq ?_; refine SW.row ?_; simp only [go_sem, Nat.reduceAdd, Nat.reduceEqDiff, Nat.reduceLeDiff, Nat.reduceMul, reduceIte, Nat.zero_ne_one, Nat.one_ne_zero, Nat.zero_add, Nat.add_zero, List.map_cons, List.map_nil, List.length_cons, List.length_nil, decide_true, decide_false, Bool.not_true, Bool.not_false, true_and, and_true, ne_eq, not_true_eq_false, not_false_eq_true, forall_const, List.getElem?_cons_zero, List.getElem?_cons_succ]
  refine SW.ret ?_; (try simp only [go_sem]); refine FunPost.one (GR.of ?_); (try simp only [go_sem, Nat.reduceAdd, Nat.reduceEqDiff, Nat.reduceLeDiff, Nat.reduceMul, reduceIte, Nat.zero_ne_one, Nat.one_ne_zero, Nat.zero_add, Nat.add_zero, List.map_cons, List.map_nil, List.length_cons, List.length_nil, decide_true, decide_false, Bool.not_true, Bool.not_false, true_and, and_true, ne_eq, not_true_eq_false, not_false_eq_true, forall_const, List.getElem?_cons_zero, List.getElem?_cons_succ])
end Go.Proofs.Ytonfknfphdeenaa
