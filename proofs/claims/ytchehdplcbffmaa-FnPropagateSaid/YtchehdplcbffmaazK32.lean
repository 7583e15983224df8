/- Completions, counted: the program. -/
import Derived.Test.YtchehdplcbffmaaProg
import Derived.KernelRfl
import Derived.Test.YtchehdplcbffmaazK31
set_option linter.unusedSimpArgs false
set_option linter.unusedVariables false
set_option maxHeartbeats 4000000
set_option maxRecDepth 100000
namespace Go.Proofs.Ytchehdplcbffmaa
open Go.Av
abbrev f_impl_isBudget : Nat := 41
def c_impl_isBudget : SC :=
 .seq (.reg [
     ⟨(some 2), .mv (.const (.bool false)), none⟩] [0])
 (.seq (.reg [
     ⟨(some 3), .mv (.tmp 0), none⟩,
     ⟨(some 4), .call 45 [(.tmp 3), (.const (.int .i64 1)), (.const (.int .i64 20000))], none⟩,
     ⟨(some 2), .mv (.tmp 4), none⟩] [2])
 (.ret))
theorem s_impl_isBudget : stripF Try.prog 41 [[0], [2]] = some (c_impl_isBudget, [.tmp 2], 5) := by kernel_rfl
abbrev f_impl_completions : Nat := 46
def c_impl_completions : SC :=
 .seq (.reg [
     ⟨(some 6), .mv (.const (.pointer none)), none⟩] [0, 1, 2])
 (.seq (.reg [
     ⟨(some 8), .mv (.tmp 2), none⟩,
     ⟨(some 9), .build [(.int .i64 0), (.bool false)] [(0, 1, (.tmp 8))], none⟩,
     ⟨(some 10), .mv (.tmp 0), none⟩,
     ⟨(some 11), .call 47 [(.tmp 10)], none⟩,
     ⟨(some 12), .mv (.tmp 0), none⟩,
     ⟨(some 13), .call 49 [(.tmp 12)], none⟩,
     ⟨(some 14), .mv (.tmp 1), none⟩,
     ⟨(some 15), .build [(.int .i64 0), (.bool false), (.slice none 0 0), (.slice none 0 0), (.int .i64 0), (.int .i64 0), (.slice none 0 0)] [(0, 2, (.tmp 9)), (2, 1, (.tmp 11)), (3, 1, (.tmp 13)), (4, 1, (.tmp 14))], none⟩,
     ⟨(some 16), .box 64 (.tmp 15), none⟩,
     ⟨(some 7), .mv (.tmp 16), none⟩] [7])
 (.seq (.reg [
     ⟨(some 17), .mv (.tmp 7), none⟩,
     ⟨(some 18), .call 87 [(.tmp 17), (.const (.int .i64 0))], none⟩] [7])
 (.seq (.reg [
     ⟨(some 19), .mv (.tmp 7), none⟩,
     ⟨(some 6), .mv (.tmp 19), none⟩] [6])
 (.ret))))
theorem s_impl_completions : stripF Try.prog 46 [[0, 1, 2], [7], [7], [6]] = some (c_impl_completions, [.tmp 6], 20) := by kernel_rfl
theorem empT_lt {sq : List (List Int)} {n m c : Nat} (h : c ∈ empT sq n m) : c < m := List.mem_range.1 (List.mem_filter.1 h).1
theorem empT_cell {sq : List (List Int)} {n m c : Nat} (h : c ∈ empT sq n m) : cellAt sq (c / n) (c % n) = -1 := of_decide_eq_true (List.mem_filter.1 h).2
theorem empT_nodup (sq : List (List Int)) (n m : Nat) : (empT sq n m).Nodup := List.Pairwise.filter _ List.nodup_range
def st0 (b : Nat) : CS := ⟨b, false, 0, none⟩
def outS (n lim : Nat) (p : List (List Int)) (b : Nat) : CS := srch n lim (empT p n (n * n)) p (st0 b)
theorem st0_good {lim b : Nat} : Good lim (st0 b) := by
  refine ⟨Nat.zero_le _, ?_, ?_⟩
  · intro h; cases h
  · simp [st0]
theorem st0_first {n b : Nat} : FirstOk n (st0 b) := fun f h => by cases h
theorem partB_facts {p : List (List Int)} (h : partB p = true) : 1 ≤ p.length ∧ p.length ≤ 10 ∧ ∀ r ∈ p, r.length = p.length := by
  simp only [partB, Bool.and_eq_true, decide_eq_true_eq, List.all_eq_true] at h
  exact ⟨h.1.1.1, h.1.1.2, h.1.2⟩
theorem completions_ok (H : List Blk) (p : List (List Int)) (lim b : Nat) (hp : 1 ≤ p.length ∧ p.length ≤ 10) (hl : ∀ r ∈ p, r.length = p.length) (hlim : 1 ≤ lim ∧ lim ≤ 1000) (hb : b ≤ 1000000) :
    ACalls Try.prog f_impl_completions [ilSS p, I lim, I b] H (fun r H' => r = .pc (H.length + (p.length + 1)) 0 0 ∧ H' = hpC H p.length lim (empT p p.length (p.length * p.length)) p (outS p.length lim p b)) := by
  have hem := emptyCells_fn p (by omega) hl
  have hs := search_ok p.length lim hp (by omega) (empT p p.length (p.length * p.length)) (fun c hc => empT_lt hc) (empT p p.length (p.length * p.length)) [] rfl (empT_nodup _ _ _) H p (st0 b) ⟨rfl, hl⟩ (fun c hc => empT_cell hc) st0_good st0_first (by show 0 < lim; omega) rfl hb
  have hQ := sqB_length p.length 1 H.length p
  unfold outS
  generalize empT p p.length (p.length * p.length) = E at *
  generalize srch p.length lim E p (st0 b) = S at *
  refine ACalls.introB s_impl_completions (by simp) ?_; intro hB hA; unfold c_impl_completions; simp (config := { maxSteps := 1000000 }) (disch := (first | omega | (simp only [go_sem]; try omega))) only [go_sem, Nat.reduceAdd, Nat.reduceEqDiff, Nat.reduceLeDiff, Nat.reduceMul, Nat.reduceLT, reduceIte, Int.reduceToNat, w64_id, cast_succ]
  repeat (first | (with_reducible first | refine SW.seq ?_ | refine SW.block ?_ | refine SW.rowC ?_ | refine SW.skip ?_ | refine SW.exit ?_ | intro _ | refine And.intro (by omega) ?_) | simp (config := { maxSteps := 1000000 }) (disch := (first | omega | (simp only [go_sem]; try omega))) only [go_sem, Nat.reduceAdd, Nat.reduceEqDiff, Nat.reduceLeDiff, Nat.reduceMul, Nat.reduceLT, reduceIte, Int.reduceToNat, w64_id, cast_succ])
  refine (copyLists_sq _ _ p.length p (rd_ilSS _ _) (by omega) (fun r hr => ⟨fun h => by have := hl r hr; rw [h] at this; simp at this; omega, by have := hl r hr; omega⟩)).mono ?_
  rintro r H1 ⟨rfl, rfl⟩
  repeat (first | (with_reducible first | refine SW.seq ?_ | refine SW.block ?_ | refine SW.rowC ?_ | refine SW.skip ?_ | refine SW.exit ?_ | refine PFn.use (hem) ?_ | refine PFn.useq (hem) ?_ | intro _ | refine And.intro (by omega) ?_) | simp (config := { maxSteps := 1000000 }) (disch := (first | omega | (simp only [go_sem]; try omega))) only [go_sem, Nat.reduceAdd, Nat.reduceEqDiff, Nat.reduceLeDiff, Nat.reduceMul, Nat.reduceLT, reduceIte, Int.reduceToNat, w64_id, cast_succ, hQ])
  refine ACalls.mono hs ?_
  rintro r H1 rfl
  repeat (first | (with_reducible first | refine SW.seq ?_ | refine SW.block ?_ | refine SW.rowC ?_ | refine SW.skip ?_ | refine SW.exit ?_ | intro _ | refine And.intro (by omega) ?_) | simp (config := { maxSteps := 1000000 }) (disch := (first | omega | (simp only [go_sem]; try omega))) only [go_sem, Nat.reduceAdd, Nat.reduceEqDiff, Nat.reduceLeDiff, Nat.reduceMul, Nat.reduceLT, reduceIte, Int.reduceToNat, w64_id, cast_succ])
  refine SW.ret ?_; (try simp only [go_sem]); (first | refine FunPost.one ?_ | refine FunPost.two ?_ | refine FunPost.three ?_); (try simp (config := { maxSteps := 1000000 }) (disch := (first | omega | (simp only [go_sem]; try omega))) only [go_sem, Nat.reduceAdd, Nat.reduceEqDiff, Nat.reduceLeDiff, Nat.reduceMul, Nat.reduceLT, reduceIte, Int.reduceToNat, w64_id, cast_succ])
  exact GR.of ⟨rfl, rfl⟩
theorem isBudget_fn (b : Int) : PFn Try.prog f_impl_isBudget [I b] (Bv (decide (1 ≤ b) && decide (b ≤ 20000))) := by
  intro H; refine ACalls.introB s_impl_isBudget (by simp) ?_; intro hB hA; unfold c_impl_isBudget; simp (config := { maxSteps := 1000000 }) (disch := (first | omega | (simp only [go_sem]; try omega))) only [go_sem, Nat.reduceAdd, Nat.reduceEqDiff, Nat.reduceLeDiff, Nat.reduceMul, Nat.reduceLT, reduceIte, Int.reduceToNat, w64_id, cast_succ]
  repeat (first | (with_reducible first | refine SW.seq ?_ | refine SW.block ?_ | refine SW.rowC ?_ | refine SW.skip ?_ | refine SW.exit ?_ | refine PFn.use (within_fn _ _ _) ?_ | refine PFn.useq (within_fn _ _ _) ?_ | intro _ | refine And.intro (by omega) ?_) | simp (config := { maxSteps := 1000000 }) (disch := (first | omega | (simp only [go_sem]; try omega))) only [go_sem, Nat.reduceAdd, Nat.reduceEqDiff, Nat.reduceLeDiff, Nat.reduceMul, Nat.reduceLT, reduceIte, Int.reduceToNat, w64_id, cast_succ])
  refine SW.ret ?_; (try simp only [go_sem]); (first | refine FunPost.one ?_ | refine FunPost.two ?_ | refine FunPost.three ?_); (try simp (config := { maxSteps := 1000000 }) (disch := (first | omega | (simp only [go_sem]; try omega))) only [go_sem, Nat.reduceAdd, Nat.reduceEqDiff, Nat.reduceLeDiff, Nat.reduceMul, Nat.reduceLT, reduceIte, Int.reduceToNat, w64_id, cast_succ]); (first | (with_reducible refine GR.drop ?_ ?_; (simp only [go_sem, and_self, and_true, true_and, implies_true, List.take_succ_cons, List.take_zero])) | refine GR.of ?_); refine ⟨?_, rfl⟩; (try with_reducible rfl)
end Go.Proofs.Ytchehdplcbffmaa
