/- Completions, counted: the program. -/
import Derived.Test.YtchehdplcbffmaaProg
import Derived.KernelRfl
import Derived.Test.YtchehdplcbffmaazK31
set_option linter.unusedSimpArgs false
set_option linter.unusedVariables false
set_option maxHeartbeats 4000000
set_option maxRecDepth 100000
namespace Go.Proofs.Ytchehdplcbffmaa
open Go.Av
abbrev f_impl_CountCompletions : Nat := 12
def c_impl_CountCompletions : SC :=
 .seq (.reg [
     ⟨(some 6), .mv (.const (.int .i64 0)), none⟩,
     ⟨(some 7), .mv (.const (.int .i64 0)), none⟩] [0, 1, 2])
 (.seq (.seq (.reg [
     ⟨(some 9), .mv (.tmp 0), none⟩,
     ⟨(some 10), .call 19 [(.tmp 9)], none⟩,
     ⟨(some 11), .un .not (.tmp 10), none⟩] [0, 1, 2, 11])
 (.cond (.tmp 11)
  (.seq (.reg [
      ⟨(some 6), .mv (.const (.int .i64 0)), none⟩,
      ⟨(some 7), .mv (.const (.int .i64 1)), none⟩] [6, 7])
  (.ret))
  (.skip)))
 (.seq (.seq (.reg [
     ⟨(some 12), .mv (.tmp 2), none⟩,
     ⟨(some 13), .call 41 [(.tmp 12)], none⟩,
     ⟨(some 14), .un .not (.tmp 13), none⟩,
     ⟨(some 15), .mv (.tmp 14), none⟩,
     ⟨(some 16), .mv (.tmp 1), (some (15, false))⟩,
     ⟨(some 17), .call 45 [(.tmp 16), (.const (.int .i64 1)), (.const (.int .i64 1000))], (some (15, false))⟩,
     ⟨(some 18), .un .not (.tmp 17), (some (15, false))⟩,
     ⟨(some 19), .pick (.tmp 15) (.const (.bool true)) (.tmp 18), none⟩] [0, 1, 2, 19])
 (.cond (.tmp 19)
  (.seq (.reg [
      ⟨(some 6), .mv (.const (.int .i64 0)), none⟩,
      ⟨(some 7), .mv (.const (.int .i64 2)), none⟩] [6, 7])
  (.ret))
  (.skip)))
 (.seq (.reg [
     ⟨(some 20), .mv (.tmp 0), none⟩,
     ⟨(some 21), .mv (.tmp 1), none⟩,
     ⟨(some 22), .mv (.tmp 2), none⟩,
     ⟨(some 23), .call 46 [(.tmp 20), (.tmp 21), (.tmp 22)], none⟩,
     ⟨(some 8), .mv (.tmp 23), none⟩] [8])
 (.seq (.seq (.reg [
     ⟨(some 24), .mv (.tmp 8), none⟩,
     ⟨(some 25), .nilc (.tmp 24), none⟩,
     ⟨(some 26), .faddr 0 (.tmp 25), none⟩,
     ⟨(some 27), .faddr 1 (.tmp 26), none⟩,
     ⟨(some 28), .load 1 false (.tmp 27), none⟩] [8, 28])
 (.cond (.tmp 28)
  (.seq (.reg [
      ⟨(some 6), .mv (.const (.int .i64 0)), none⟩,
      ⟨(some 7), .mv (.const (.int .i64 5)), none⟩] [6, 7])
  (.ret))
  (.skip)))
 (.seq (.reg [
     ⟨(some 29), .mv (.tmp 8), none⟩,
     ⟨(some 30), .nilc (.tmp 29), none⟩,
     ⟨(some 31), .faddr 5 (.tmp 30), none⟩,
     ⟨(some 32), .load 1 false (.tmp 31), none⟩,
     ⟨(some 6), .mv (.tmp 32), none⟩,
     ⟨(some 7), .mv (.const (.int .i64 0)), none⟩] [6, 7])
 (.ret))))))
theorem s_impl_CountCompletions : stripF Try.prog 12 [[0, 1, 2], [0, 1, 2, 11], [6, 7], [0, 1, 2, 19], [6, 7], [8], [8, 28], [6, 7], [6, 7]] = some (c_impl_CountCompletions, [.tmp 6, .tmp 7], 33) := by kernel_rfl
abbrev f_impl_isBudget : Nat := 41
def c_impl_isBudget : SC :=
 .seq (.reg [
     ⟨(some 2), .mv (.const (.bool false)), none⟩] [0])
 (.seq (.reg [
     ⟨(some 3), .mv (.tmp 0), none⟩,
     ⟨(some 4), .call 45 [(.tmp 3), (.const (.int .i64 1)), (.const (.int .i64 20000))], none⟩,
     ⟨(some 2), .mv (.tmp 4), none⟩] [2])
 (.ret))
theorem s_impl_isBudget : stripF Try.prog 41 [[0], [2]] = some (c_impl_isBudget, [.tmp 2], 5) := by kernel_rfl
abbrev f_impl_completions : Nat := 46
def c_impl_completions : SC :=
 .seq (.reg [
     ⟨(some 6), .mv (.const (.pointer none)), none⟩] [0, 1, 2])
 (.seq (.reg [
     ⟨(some 8), .mv (.tmp 2), none⟩,
     ⟨(some 9), .build [(.int .i64 0), (.bool false)] [(0, 1, (.tmp 8))], none⟩,
     ⟨(some 10), .mv (.tmp 0), none⟩,
     ⟨(some 11), .call 47 [(.tmp 10)], none⟩,
     ⟨(some 12), .mv (.tmp 0), none⟩,
     ⟨(some 13), .call 49 [(.tmp 12)], none⟩,
     ⟨(some 14), .mv (.tmp 1), none⟩,
     ⟨(some 15), .build [(.int .i64 0), (.bool false), (.slice none 0 0), (.slice none 0 0), (.int .i64 0), (.int .i64 0), (.slice none 0 0)] [(0, 2, (.tmp 9)), (2, 1, (.tmp 11)), (3, 1, (.tmp 13)), (4, 1, (.tmp 14))], none⟩,
     ⟨(some 16), .box 64 (.tmp 15), none⟩,
     ⟨(some 7), .mv (.tmp 16), none⟩] [7])
 (.seq (.reg [
     ⟨(some 17), .mv (.tmp 7), none⟩,
     ⟨(some 18), .call 87 [(.tmp 17), (.const (.int .i64 0))], none⟩] [7])
 (.seq (.reg [
     ⟨(some 19), .mv (.tmp 7), none⟩,
     ⟨(some 6), .mv (.tmp 19), none⟩] [6])
 (.ret))))
theorem s_impl_completions : stripF Try.prog 46 [[0, 1, 2], [7], [7], [6]] = some (c_impl_completions, [.tmp 6], 20) := by kernel_rfl
theorem empT_lt {sq : List (List Int)} {n m c : Nat} (h : c ∈ empT sq n m) : c < m := List.mem_range.1 (List.mem_filter.1 h).1
theorem empT_cell {sq : List (List Int)} {n m c : Nat} (h : c ∈ empT sq n m) : cellAt sq (c / n) (c % n) = -1 := of_decide_eq_true (List.mem_filter.1 h).2
theorem empT_nodup (sq : List (List Int)) (n m : Nat) : (empT sq n m).Nodup := List.Pairwise.filter _ List.nodup_range
def st0 (b : Nat) : CS := ⟨b, false, 0, none⟩
def outS (n lim : Nat) (p : List (List Int)) (b : Nat) : CS := srch n lim (empT p n (n * n)) p (st0 b)
theorem st0_good {lim b : Nat} : Good lim (st0 b) := by
  refine ⟨Nat.zero_le _, ?_, ?_⟩
  · intro h; cases h
  · simp [st0]
theorem st0_first {n b : Nat} : FirstOk n (st0 b) := fun f h => by cases h
theorem partB_facts {p : List (List Int)} (h : partB p = true) : 1 ≤ p.length ∧ p.length ≤ 10 ∧ ∀ r ∈ p, r.length = p.length := by
  simp only [partB, Bool.and_eq_true, decide_eq_true_eq, List.all_eq_true] at h
  exact ⟨h.1.1.1, h.1.1.2, h.1.2⟩
theorem completions_ok (H : List Blk) (p : List (List Int)) (lim b : Nat) (hp : 1 ≤ p.length ∧ p.length ≤ 10) (hl : ∀ r ∈ p, r.length = p.length) (hlim : 1 ≤ lim ∧ lim ≤ 1000) (hb : b ≤ 1000000) :
    ACalls Try.prog f_impl_completions [ilSS p, I lim, I b] H (fun r H' => r = .pc (H.length + (p.length + 1)) 0 0 ∧ H' = hpC H p.length lim (empT p p.length (p.length * p.length)) p (outS p.length lim p b)) := by
  have hem := emptyCells_fn p (by omega) hl
  have hs := search_ok p.length lim hp (by omega) (empT p p.length (p.length * p.length)) (fun c hc => empT_lt hc) (empT p p.length (p.length * p.length)) [] rfl (empT_nodup _ _ _) H p (st0 b) ⟨rfl, hl⟩ (fun c hc => empT_cell hc) st0_good st0_first (by show 0 < lim; omega) rfl hb
  have hQ := sqB_length p.length 1 H.length p
  unfold outS
  generalize empT p p.length (p.length * p.length) = E at *
  generalize srch p.length lim E p (st0 b) = S at *
  refine ACalls.introB s_impl_completions (by simp) ?_; intro hB hA; unfold c_impl_completions; simp (config := { maxSteps := 1000000 }) (disch := (first | omega | (simp only [go_sem]; try omega))) only [go_sem, Nat.reduceAdd, Nat.reduceEqDiff, Nat.reduceLeDiff, Nat.reduceMul, Nat.reduceLT, reduceIte, Int.reduceToNat, w64_id, cast_succ]
  repeat (first | (with_reducible first | refine SW.seq ?_ | refine SW.block ?_ | refine SW.rowC ?_ | refine SW.skip ?_ | refine SW.exit ?_ | intro _ | refine And.intro (by omega) ?_) | simp (config := { maxSteps := 1000000 }) (disch := (first | omega | (simp only [go_sem]; try omega))) only [go_sem, Nat.reduceAdd, Nat.reduceEqDiff, Nat.reduceLeDiff, Nat.reduceMul, Nat.reduceLT, reduceIte, Int.reduceToNat, w64_id, cast_succ])
  refine (copyLists_sq _ _ p.length p (rd_ilSS _ _) (by omega) (fun r hr => ⟨fun h => by have := hl r hr; rw [h] at this; simp at this; omega, by have := hl r hr; omega⟩)).mono ?_
  rintro r H1 ⟨rfl, rfl⟩
  repeat (first | (with_reducible first | refine SW.seq ?_ | refine SW.block ?_ | refine SW.rowC ?_ | refine SW.skip ?_ | refine SW.exit ?_ | refine PFn.use (hem) ?_ | refine PFn.useq (hem) ?_ | intro _ | refine And.intro (by omega) ?_) | simp (config := { maxSteps := 1000000 }) (disch := (first | omega | (simp only [go_sem]; try omega))) only [go_sem, Nat.reduceAdd, Nat.reduceEqDiff, Nat.reduceLeDiff, Nat.reduceMul, Nat.reduceLT, reduceIte, Int.reduceToNat, w64_id, cast_succ, hQ])
  refine ACalls.mono hs ?_
  rintro r H1 rfl
  repeat (first | (with_reducible first | refine SW.seq ?_ | refine SW.block ?_ | refine SW.rowC ?_ | refine SW.skip ?_ | refine SW.exit ?_ | intro _ | refine And.intro (by omega) ?_) | simp (config := { maxSteps := 1000000 }) (disch := (first | omega | (simp only [go_sem]; try omega))) only [go_sem, Nat.reduceAdd, Nat.reduceEqDiff, Nat.reduceLeDiff, Nat.reduceMul, Nat.reduceLT, reduceIte, Int.reduceToNat, w64_id, cast_succ])
  refine SW.ret ?_; (try simp only [go_sem]); (first | refine FunPost.one ?_ | refine FunPost.two ?_ | refine FunPost.three ?_); (try simp (config := { maxSteps := 1000000 }) (disch := (first | omega | (simp only [go_sem]; try omega))) only [go_sem, Nat.reduceAdd, Nat.reduceEqDiff, Nat.reduceLeDiff, Nat.reduceMul, Nat.reduceLT, reduceIte, Int.reduceToNat, w64_id, cast_succ])
  exact GR.of ⟨rfl, rfl⟩
def ccV (p : List (List Int)) (lim b : Int) : Int × Int :=
  if !partB p then (0, 1) else if !(decide (1 ≤ b) && decide (b ≤ 20000)) || !(decide (1 ≤ lim) && decide (lim ≤ 1000)) then (0, 2) else
    if (outS p.length lim.toNat p b.toNat).spent then (0, 5) else (((outS p.length lim.toNat p b.toNat).count : Int), 0)
theorem isBudget_fn (b : Int) : PFn Try.prog f_impl_isBudget [I b] (Bv (decide (1 ≤ b) && decide (b ≤ 20000))) := by
  intro H; refine ACalls.introB s_impl_isBudget (by simp) ?_; intro hB hA; unfold c_impl_isBudget; simp (config := { maxSteps := 1000000 }) (disch := (first | omega | (simp only [go_sem]; try omega))) only [go_sem, Nat.reduceAdd, Nat.reduceEqDiff, Nat.reduceLeDiff, Nat.reduceMul, Nat.reduceLT, reduceIte, Int.reduceToNat, w64_id, cast_succ]
  repeat (first | (with_reducible first | refine SW.seq ?_ | refine SW.block ?_ | refine SW.rowC ?_ | refine SW.skip ?_ | refine SW.exit ?_ | refine PFn.use (within_fn _ _ _) ?_ | refine PFn.useq (within_fn _ _ _) ?_ | intro _ | refine And.intro (by omega) ?_) | simp (config := { maxSteps := 1000000 }) (disch := (first | omega | (simp only [go_sem]; try omega))) only [go_sem, Nat.reduceAdd, Nat.reduceEqDiff, Nat.reduceLeDiff, Nat.reduceMul, Nat.reduceLT, reduceIte, Int.reduceToNat, w64_id, cast_succ])
  refine SW.ret ?_; (try simp only [go_sem]); (first | refine FunPost.one ?_ | refine FunPost.two ?_ | refine FunPost.three ?_); (try simp (config := { maxSteps := 1000000 }) (disch := (first | omega | (simp only [go_sem]; try omega))) only [go_sem, Nat.reduceAdd, Nat.reduceEqDiff, Nat.reduceLeDiff, Nat.reduceMul, Nat.reduceLT, reduceIte, Int.reduceToNat, w64_id, cast_succ]); (first | (with_reducible refine GR.drop ?_ ?_; (simp only [go_sem, and_self, and_true, true_and, implies_true, List.take_succ_cons, List.take_zero])) | refine GR.of ?_); refine ⟨?_, rfl⟩; (try with_reducible rfl)
theorem implCount_fn (p : List (List Int)) (lim b : Int) : PFn Try.prog f_impl_CountCompletions [ilSS p, I lim, I b] (.tup [I (ccV p lim b).1, I (ccV p lim b).2]) := by
  have hv := ValidPartial_fn p
  intro H; refine ACalls.introB s_impl_CountCompletions (by simp) ?_; intro hB hA; unfold c_impl_CountCompletions; simp (config := { maxSteps := 1000000 }) (disch := (first | omega | (simp only [go_sem]; try omega))) only [go_sem, Nat.reduceAdd, Nat.reduceEqDiff, Nat.reduceLeDiff, Nat.reduceMul, Nat.reduceLT, reduceIte, Int.reduceToNat, w64_id, cast_succ]
  repeat (first | (with_reducible first | refine SW.seq ?_ | refine SW.block ?_ | refine SW.rowC ?_ | refine SW.skip ?_ | refine SW.exit ?_ | refine PFn.use (hv) ?_ | refine PFn.useq (hv) ?_ | intro _ | refine And.intro (by omega) ?_) | simp (config := { maxSteps := 1000000 }) (disch := (first | omega | (simp only [go_sem]; try omega))) only [go_sem, Nat.reduceAdd, Nat.reduceEqDiff, Nat.reduceLeDiff, Nat.reduceMul, Nat.reduceLT, reduceIte, Int.reduceToNat, w64_id, cast_succ])
  (first | refine SW.condD rfl (fun h => ?_) (fun h => ?_) | refine SW.condN rfl (fun h => ?_) (fun h => ?_) | refine SW.condNB rfl (fun h => ?_) (fun h => ?_) | refine SW.condB rfl (fun h => ?_) (fun h => ?_))
  · rw [ccV, h]
    repeat (first | (with_reducible first | refine SW.seq ?_ | refine SW.block ?_ | refine SW.rowC ?_ | refine SW.skip ?_ | refine SW.exit ?_ | intro _ | refine And.intro (by omega) ?_) | simp (config := { maxSteps := 1000000 }) (disch := (first | omega | (simp only [go_sem]; try omega))) only [go_sem, Nat.reduceAdd, Nat.reduceEqDiff, Nat.reduceLeDiff, Nat.reduceMul, Nat.reduceLT, reduceIte, Int.reduceToNat, w64_id, cast_succ])
    refine SW.ret ?_; (try simp only [go_sem]); (first | refine FunPost.one ?_ | refine FunPost.two ?_ | refine FunPost.three ?_); (try simp (config := { maxSteps := 1000000 }) (disch := (first | omega | (simp only [go_sem]; try omega))) only [go_sem, Nat.reduceAdd, Nat.reduceEqDiff, Nat.reduceLeDiff, Nat.reduceMul, Nat.reduceLT, reduceIte, Int.reduceToNat, w64_id, cast_succ]); (first | (with_reducible refine GR.drop ?_ ?_; (simp only [go_sem, and_self, and_true, true_and, implies_true, List.take_succ_cons, List.take_zero])) | refine GR.of ?_); refine ⟨?_, rfl⟩; (try with_reducible rfl)
  have hf := partB_facts h
  rw [ccV, h]
  cases h1 : (decide (1 ≤ b) && decide (b ≤ 20000))
  · repeat (first | (with_reducible first | refine SW.seq ?_ | refine SW.block ?_ | refine SW.rowC ?_ | refine SW.skip ?_ | refine SW.exit ?_ | refine PFn.use (isBudget_fn _) ?_ | refine PFn.useq (isBudget_fn _) ?_ | refine PFn.use (within_fn _ _ _) ?_ | refine PFn.useq (within_fn _ _ _) ?_ | intro _ | refine And.intro (by omega) ?_) | simp (config := { maxSteps := 1000000 }) (disch := (first | omega | (simp only [go_sem]; try omega))) only [go_sem, Nat.reduceAdd, Nat.reduceEqDiff, Nat.reduceLeDiff, Nat.reduceMul, Nat.reduceLT, reduceIte, Int.reduceToNat, w64_id, cast_succ, h1])
    refine SW.condT rfl ?_
    repeat (first | (with_reducible first | refine SW.seq ?_ | refine SW.block ?_ | refine SW.rowC ?_ | refine SW.skip ?_ | refine SW.exit ?_ | intro _ | refine And.intro (by omega) ?_) | simp (config := { maxSteps := 1000000 }) (disch := (first | omega | (simp only [go_sem]; try omega))) only [go_sem, Nat.reduceAdd, Nat.reduceEqDiff, Nat.reduceLeDiff, Nat.reduceMul, Nat.reduceLT, reduceIte, Int.reduceToNat, w64_id, cast_succ])
    refine SW.ret ?_; (try simp only [go_sem]); (first | refine FunPost.one ?_ | refine FunPost.two ?_ | refine FunPost.three ?_); (try simp (config := { maxSteps := 1000000 }) (disch := (first | omega | (simp only [go_sem]; try omega))) only [go_sem, Nat.reduceAdd, Nat.reduceEqDiff, Nat.reduceLeDiff, Nat.reduceMul, Nat.reduceLT, reduceIte, Int.reduceToNat, w64_id, cast_succ]); (first | (with_reducible refine GR.drop ?_ ?_; (simp only [go_sem, and_self, and_true, true_and, implies_true, List.take_succ_cons, List.take_zero])) | refine GR.of ?_); refine ⟨?_, rfl⟩; (try with_reducible rfl)
    rfl
  · cases h2 : (decide (1 ≤ lim) && decide (lim ≤ 1000))
    · repeat (first | (with_reducible first | refine SW.seq ?_ | refine SW.block ?_ | refine SW.rowC ?_ | refine SW.skip ?_ | refine SW.exit ?_ | refine PFn.use (isBudget_fn _) ?_ | refine PFn.useq (isBudget_fn _) ?_ | refine PFn.use (within_fn _ _ _) ?_ | refine PFn.useq (within_fn _ _ _) ?_ | intro _ | refine And.intro (by omega) ?_) | simp (config := { maxSteps := 1000000 }) (disch := (first | omega | (simp only [go_sem]; try omega))) only [go_sem, Nat.reduceAdd, Nat.reduceEqDiff, Nat.reduceLeDiff, Nat.reduceMul, Nat.reduceLT, reduceIte, Int.reduceToNat, w64_id, cast_succ, h1, h2])
      refine SW.condT rfl ?_
      repeat (first | (with_reducible first | refine SW.seq ?_ | refine SW.block ?_ | refine SW.rowC ?_ | refine SW.skip ?_ | refine SW.exit ?_ | intro _ | refine And.intro (by omega) ?_) | simp (config := { maxSteps := 1000000 }) (disch := (first | omega | (simp only [go_sem]; try omega))) only [go_sem, Nat.reduceAdd, Nat.reduceEqDiff, Nat.reduceLeDiff, Nat.reduceMul, Nat.reduceLT, reduceIte, Int.reduceToNat, w64_id, cast_succ])
      refine SW.ret ?_; (try simp only [go_sem]); (first | refine FunPost.one ?_ | refine FunPost.two ?_ | refine FunPost.three ?_); (try simp (config := { maxSteps := 1000000 }) (disch := (first | omega | (simp only [go_sem]; try omega))) only [go_sem, Nat.reduceAdd, Nat.reduceEqDiff, Nat.reduceLeDiff, Nat.reduceMul, Nat.reduceLT, reduceIte, Int.reduceToNat, w64_id, cast_succ]); (first | (with_reducible refine GR.drop ?_ ?_; (simp only [go_sem, and_self, and_true, true_and, implies_true, List.take_succ_cons, List.take_zero])) | refine GR.of ?_); refine ⟨?_, rfl⟩; (try with_reducible rfl)
      rfl
    · have hb := h1
      have hl := h2
      simp only [Bool.and_eq_true, decide_eq_true_eq] at hb hl
      obtain ⟨b, rfl⟩ := Int.eq_ofNat_of_zero_le (show 0 ≤ b by omega)
      obtain ⟨lim, rfl⟩ := Int.eq_ofNat_of_zero_le (show 0 ≤ lim by omega)
      repeat (first | (with_reducible first | refine SW.seq ?_ | refine SW.block ?_ | refine SW.rowC ?_ | refine SW.skip ?_ | refine SW.exit ?_ | refine PFn.use (isBudget_fn _) ?_ | refine PFn.useq (isBudget_fn _) ?_ | refine PFn.use (within_fn _ _ _) ?_ | refine PFn.useq (within_fn _ _ _) ?_ | intro _ | refine And.intro (by omega) ?_) | simp (config := { maxSteps := 1000000 }) (disch := (first | omega | (simp only [go_sem]; try omega))) only [go_sem, Nat.reduceAdd, Nat.reduceEqDiff, Nat.reduceLeDiff, Nat.reduceMul, Nat.reduceLT, reduceIte, Int.reduceToNat, w64_id, cast_succ, h1, h2])
      refine SW.condF rfl ?_
      repeat (first | (with_reducible first | refine SW.seq ?_ | refine SW.block ?_ | refine SW.rowC ?_ | refine SW.skip ?_ | refine SW.exit ?_ | intro _ | refine And.intro (by omega) ?_) | simp (config := { maxSteps := 1000000 }) (disch := (first | omega | (simp only [go_sem]; try omega))) only [go_sem, Nat.reduceAdd, Nat.reduceEqDiff, Nat.reduceLeDiff, Nat.reduceMul, Nat.reduceLT, reduceIte, Int.reduceToNat, w64_id, cast_succ])
      refine (completions_ok _ p lim b ⟨hf.1, hf.2.1⟩ hf.2.2 (by omega) (by omega)).mono ?_
      rintro r H1 ⟨rfl, rfl⟩
      have hQ := sqB_length p.length 1 H.length p
      have hg1 := fun (b : Blk) (r : List Blk) => getAt hQ b r
      obtain ⟨l2, sp2, ct2, fi2⟩ := outS p.length lim p b
      have e1 : hpC H p.length lim (empT p p.length (p.length * p.length)) p ⟨l2, sp2, ct2, fi2⟩ = H ++ (sqB p.length 1 H.length p ++ ⟨0, tyCo, 1, [I l2, Bv sp2, .nm H.length p.length 0 p.length, ilS (natL (empT p p.length (p.length * p.length))), I lim, I ct2, fAV p.length H.length fi2]⟩ :: fB p.length H.length fi2) := rfl
      rw [e1]
      cases sp2
      · repeat (first | (with_reducible first | refine SW.seq ?_ | refine SW.block ?_ | refine SW.rowC ?_ | refine SW.skip ?_ | refine SW.exit ?_ | intro _ | refine And.intro (by omega) ?_) | simp (config := { maxSteps := 1000000 }) (disch := (first | omega | (simp only [go_sem]; try omega))) only [go_sem, Nat.reduceAdd, Nat.reduceEqDiff, Nat.reduceLeDiff, Nat.reduceMul, Nat.reduceLT, reduceIte, Int.reduceToNat, w64_id, cast_succ, hg1])
        refine SW.condF rfl ?_
        repeat (first | (with_reducible first | refine SW.seq ?_ | refine SW.block ?_ | refine SW.rowC ?_ | refine SW.skip ?_ | refine SW.exit ?_ | intro _ | refine And.intro (by omega) ?_) | simp (config := { maxSteps := 1000000 }) (disch := (first | omega | (simp only [go_sem]; try omega))) only [go_sem, Nat.reduceAdd, Nat.reduceEqDiff, Nat.reduceLeDiff, Nat.reduceMul, Nat.reduceLT, reduceIte, Int.reduceToNat, w64_id, cast_succ, hg1])
        refine SW.ret ?_; (try simp only [go_sem]); (first | refine FunPost.one ?_ | refine FunPost.two ?_ | refine FunPost.three ?_); (try simp (config := { maxSteps := 1000000 }) (disch := (first | omega | (simp only [go_sem]; try omega))) only [go_sem, Nat.reduceAdd, Nat.reduceEqDiff, Nat.reduceLeDiff, Nat.reduceMul, Nat.reduceLT, reduceIte, Int.reduceToNat, w64_id, cast_succ]); (first | (with_reducible refine GR.drop ?_ ?_; (simp only [go_sem, and_self, and_true, true_and, implies_true, List.take_succ_cons, List.take_zero])) | refine GR.of ?_); refine ⟨?_, rfl⟩; (try with_reducible rfl)
        rfl
      · repeat (first | (with_reducible first | refine SW.seq ?_ | refine SW.block ?_ | refine SW.rowC ?_ | refine SW.skip ?_ | refine SW.exit ?_ | intro _ | refine And.intro (by omega) ?_) | simp (config := { maxSteps := 1000000 }) (disch := (first | omega | (simp only [go_sem]; try omega))) only [go_sem, Nat.reduceAdd, Nat.reduceEqDiff, Nat.reduceLeDiff, Nat.reduceMul, Nat.reduceLT, reduceIte, Int.reduceToNat, w64_id, cast_succ, hg1])
        refine SW.condT rfl ?_
        repeat (first | (with_reducible first | refine SW.seq ?_ | refine SW.block ?_ | refine SW.rowC ?_ | refine SW.skip ?_ | refine SW.exit ?_ | intro _ | refine And.intro (by omega) ?_) | simp (config := { maxSteps := 1000000 }) (disch := (first | omega | (simp only [go_sem]; try omega))) only [go_sem, Nat.reduceAdd, Nat.reduceEqDiff, Nat.reduceLeDiff, Nat.reduceMul, Nat.reduceLT, reduceIte, Int.reduceToNat, w64_id, cast_succ])
        refine SW.ret ?_; (try simp only [go_sem]); (first | refine FunPost.one ?_ | refine FunPost.two ?_ | refine FunPost.three ?_); (try simp (config := { maxSteps := 1000000 }) (disch := (first | omega | (simp only [go_sem]; try omega))) only [go_sem, Nat.reduceAdd, Nat.reduceEqDiff, Nat.reduceLeDiff, Nat.reduceMul, Nat.reduceLT, reduceIte, Int.reduceToNat, w64_id, cast_succ]); (first | (with_reducible refine GR.drop ?_ ?_; (simp only [go_sem, and_self, and_true, true_and, implies_true, List.take_succ_cons, List.take_zero])) | refine GR.of ?_); refine ⟨?_, rfl⟩; (try with_reducible rfl)
        rfl
end Go.Proofs.Ytchehdplcbffmaa
