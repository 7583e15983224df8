/- Valid designs: the program, the reference. -/
import Derived.Test.YtkifdjjnbplghaaGreatProg
import Derived.KernelRfl
import Derived.Test.YtkifdjjnbplghaaGreatU1
import Derived.Test.YtkifdjjnbplghaaGreatK4
import Derived.Test.YtkifdjjnbplghaaGreatK7
import Derived.Test.YtkifdjjnbplghaaGreatK3
set_option linter.unusedSimpArgs false
set_option linter.unusedVariables false
set_option maxHeartbeats 4000000
set_option maxRecDepth 100000
namespace Go.Proofs.YtkifdjjnbplghaaGreat
open Go.Av

/-! The abstract code of functions, printed by program and tied to the program by the kernel. -/
/-- loop.example/g00920/spec.l10Ok -/
abbrev f_spec_l10Ok : Nat := 40
def c_spec_l10Ok : SC :=
 .seq (.reg [
     ⟨(some 2), .mv (.const (.bool false)), none⟩] [0])
 (.seq (.seq (.reg [
     ⟨(some 4), .mv (.tmp 0), none⟩,
     ⟨(some 5), .nilc (.tmp 4), none⟩,
     ⟨(some 6), .faddr 0 (.tmp 5), none⟩,
     ⟨(some 7), .load 1 false (.tmp 6), none⟩,
     ⟨(some 8), .call 56 [(.tmp 7), (.const (.int .i64 1)), (.const (.int .i64 32))], none⟩,
     ⟨(some 9), .un .not (.tmp 8), none⟩,
     ⟨(some 10), .mv (.tmp 9), none⟩,
     ⟨(some 11), .mv (.tmp 0), (some (10, false))⟩,
     ⟨(some 12), .nilc (.tmp 11), (some (10, false))⟩,
     ⟨(some 13), .faddr 1 (.tmp 12), (some (10, false))⟩,
     ⟨(some 14), .load 1 false (.tmp 13), (some (10, false))⟩,
     ⟨(some 15), .len (.tmp 14), (some (10, false))⟩,
     ⟨(some 16), .bin .gtr (.tmp 15) (.const (.int .i64 128)), (some (10, false))⟩,
     ⟨(some 17), .pick (.tmp 10) (.const (.bool true)) (.tmp 16), none⟩] [0, 17])
 (.cond (.tmp 17)
  (.seq (.reg [
      ⟨(some 2), .mv (.const (.bool false)), none⟩] [2])
  (.ret))
  (.skip)))
 (.seq (.seq (.reg [
     ⟨(some 3), .mv (.const (.int .i64 0)), none⟩] [0, 3])
 (.block 0 (.loop [0, 3]
   (.seq (.seq (.reg [
       ⟨(some 18), .mv (.tmp 3), none⟩,
       ⟨(some 19), .mv (.tmp 0), none⟩,
       ⟨(some 20), .nilc (.tmp 19), none⟩,
       ⟨(some 21), .faddr 1 (.tmp 20), none⟩,
       ⟨(some 22), .load 1 false (.tmp 21), none⟩,
       ⟨(some 23), .len (.tmp 22), none⟩,
       ⟨(some 24), .bin .lss (.tmp 18) (.tmp 23), none⟩] [0, 3, 24])
   (.cond (.tmp 24)
    (.skip)
    (.exit 0)))
   (.seq (.block 1 (.seq (.reg [
        ⟨(some 27), .mv (.tmp 0), none⟩,
        ⟨(some 28), .nilc (.tmp 27), none⟩,
        ⟨(some 29), .faddr 1 (.tmp 28), none⟩,
        ⟨(some 30), .load 1 false (.tmp 29), none⟩,
        ⟨(some 31), .mv (.tmp 3), none⟩,
        ⟨(some 32), .iaddr 1 (.tmp 30) (.tmp 31), none⟩,
        ⟨(some 33), .load 1 false (.tmp 32), none⟩,
        ⟨(some 34), .mv (.tmp 0), none⟩,
        ⟨(some 35), .nilc (.tmp 34), none⟩,
        ⟨(some 36), .faddr 0 (.tmp 35), none⟩,
        ⟨(some 37), .load 1 false (.tmp 36), none⟩,
        ⟨(some 38), .qcall 71 [(.tmp 33), (.tmp 37)], none⟩,
        ⟨(some 39), .un .not (.tmp 38), none⟩,
        ⟨(some 40), .mv (.tmp 39), none⟩,
        ⟨(some 41), .mv (.tmp 3), (some (40, false))⟩,
        ⟨(some 42), .bin .gtr (.tmp 41) (.const (.int .i64 0)), (some (40, false))⟩,
        ⟨(some 43), .mv (.tmp 42), (some (40, false))⟩,
        ⟨(some 44), .mv (.tmp 0), (some (43, true))⟩,
        ⟨(some 45), .nilc (.tmp 44), (some (43, true))⟩,
        ⟨(some 46), .faddr 1 (.tmp 45), (some (43, true))⟩,
        ⟨(some 47), .load 1 false (.tmp 46), (some (43, true))⟩,
        ⟨(some 48), .mv (.tmp 3), (some (43, true))⟩,
        ⟨(some 49), .bin .sub (.tmp 48) (.const (.int .i64 1)), (some (43, true))⟩,
        ⟨(some 50), .iaddr 1 (.tmp 47) (.tmp 49), (some (43, true))⟩,
        ⟨(some 51), .load 1 false (.tmp 50), (some (43, true))⟩,
        ⟨(some 52), .mv (.tmp 0), (some (43, true))⟩,
        ⟨(some 53), .nilc (.tmp 52), (some (43, true))⟩,
        ⟨(some 54), .faddr 1 (.tmp 53), (some (43, true))⟩,
        ⟨(some 55), .load 1 false (.tmp 54), (some (43, true))⟩,
        ⟨(some 56), .mv (.tmp 3), (some (43, true))⟩,
        ⟨(some 57), .iaddr 1 (.tmp 55) (.tmp 56), (some (43, true))⟩,
        ⟨(some 58), .load 1 false (.tmp 57), (some (43, true))⟩,
        ⟨(some 59), .qcall 72 [(.tmp 51), (.tmp 58)], (some (43, true))⟩,
        ⟨(some 60), .bin .gtr (.tmp 59) (.const (.int .i64 0)), (some (43, true))⟩,
        ⟨(some 61), .pick (.tmp 43) (.tmp 60) (.const (.bool false)), (some (40, false))⟩,
        ⟨(some 62), .pick (.tmp 40) (.const (.bool true)) (.tmp 61), none⟩] [0, 3, 62])
    (.cond (.tmp 62)
     (.seq (.reg [
         ⟨(some 2), .mv (.const (.bool false)), none⟩] [2])
     (.ret))
     (.skip))))
   (.reg [
       ⟨(some 25), .mv (.tmp 3), none⟩,
       ⟨(some 26), .bin .add (.tmp 25) (.const (.int .i64 1)), none⟩,
       ⟨(some 3), .mv (.tmp 26), none⟩] [0, 3]))))))
 (.seq (.reg [
     ⟨(some 2), .mv (.const (.bool true)), none⟩] [2])
 (.ret))))
theorem s_spec_l10Ok : stripF Tryz.prog 40 [[0], [0, 17], [2], [0, 3], [0, 3], [0, 3, 24], [0, 3, 62], [2], [0, 3], [2]] = some (c_spec_l10Ok, [.tmp 2], 63) := by kernel_rfl

/-- loop.example/g00920/impl.ValidDesign -/
abbrev f_impl_ValidDesign : Nat := 45
def c_impl_ValidDesign : SC :=
 .seq (.reg [
     ⟨(some 1), .box 31 (.tmp 0), none⟩,
     ⟨(some 2), .mv (.const (.bool false)), none⟩] [1])
 (.seq (.reg [
     ⟨(some 3), .faddr 1 (.tmp 1), none⟩,
     ⟨(some 4), .load 1 false (.tmp 3), none⟩,
     ⟨(some 5), .faddr 0 (.tmp 1), none⟩,
     ⟨(some 6), .load 1 false (.tmp 5), none⟩,
     ⟨(some 7), .call 77 [(.tmp 4), (.tmp 6)], none⟩,
     ⟨(some 8), .mv (.tmp 7), none⟩,
     ⟨(some 9), .faddr 1 (.tmp 1), (some (8, true))⟩,
     ⟨(some 10), .load 1 false (.tmp 9), (some (8, true))⟩,
     ⟨(some 11), .len (.tmp 10), (some (8, true))⟩,
     ⟨(some 12), .bin .leq (.tmp 11) (.const (.int .i64 128)), (some (8, true))⟩,
     ⟨(some 13), .pick (.tmp 8) (.tmp 12) (.const (.bool false)), none⟩,
     ⟨(some 14), .mv (.tmp 13), none⟩,
     ⟨(some 15), .faddr 1 (.tmp 1), (some (14, true))⟩,
     ⟨(some 16), .load 1 false (.tmp 15), (some (14, true))⟩,
     ⟨(some 17), .call 78 [(.tmp 16), (.func 79)], (some (14, true))⟩,
     ⟨(some 18), .pick (.tmp 14) (.tmp 17) (.const (.bool false)), none⟩,
     ⟨(some 2), .mv (.tmp 18), none⟩] [2])
 (.ret))
theorem s_impl_ValidDesign : stripF Tryz.prog 45 [[1], [2]] = some (c_impl_ValidDesign, [.tmp 2], 19) := by kernel_rfl

/-- loop.example/g00920/impl.areBlocks -/
abbrev f_impl_areBlocks : Nat := 77
def c_impl_areBlocks : SC :=
 .seq (.reg [
     ⟨(some 3), .box 2 (.tmp 1), none⟩,
     ⟨(some 4), .mv (.const (.bool false)), none⟩] [0, 3])
 (.seq (.reg [
     ⟨(some 5), .load 1 false (.tmp 3), none⟩,
     ⟨(some 6), .call 59 [(.tmp 5), (.const (.int .i64 1)), (.const (.int .i64 32))], none⟩,
     ⟨(some 7), .mv (.tmp 6), none⟩,
     ⟨(some 8), .mv (.tmp 0), (some (7, true))⟩,
     ⟨(some 9), .mkf 113 [(.tmp 3)], (some (7, true))⟩,
     ⟨(some 10), .call 47 [(.tmp 8), (.tmp 9)], (some (7, true))⟩,
     ⟨(some 11), .un .not (.tmp 10), (some (7, true))⟩,
     ⟨(some 12), .pick (.tmp 7) (.tmp 11) (.const (.bool false)), none⟩,
     ⟨(some 4), .mv (.tmp 12), none⟩] [4])
 (.ret))
theorem s_impl_areBlocks : stripF Tryz.prog 77 [[0, 3], [4]] = some (c_impl_areBlocks, [.tmp 4], 13) := by kernel_rfl

/-- slices.IsSortedFunc[[][]int64,[]int64] -/
abbrev f_slices_IsSortedFunc_LLint64_Lint64 : Nat := 78
def c_slices_IsSortedFunc_LLint64_Lint64 : SC :=
 .seq (.reg [
     ⟨(some 4), .mv (.const (.bool false)), none⟩] [0, 1])
 (.seq (.seq (.reg [
     ⟨(some 6), .mv (.tmp 0), none⟩,
     ⟨(some 7), .len (.tmp 6), none⟩,
     ⟨(some 8), .bin .sub (.tmp 7) (.const (.int .i64 1)), none⟩,
     ⟨(some 5), .mv (.tmp 8), none⟩] [0, 1, 5])
 (.block 0 (.loop [0, 1, 5]
   (.seq (.seq (.reg [
       ⟨(some 9), .mv (.tmp 5), none⟩,
       ⟨(some 10), .bin .gtr (.tmp 9) (.const (.int .i64 0)), none⟩] [0, 1, 5, 10])
   (.cond (.tmp 10)
    (.skip)
    (.exit 0)))
   (.seq (.block 1 (.seq (.reg [
        ⟨(some 13), .mv (.tmp 1), none⟩,
        ⟨(some 14), .mv (.tmp 0), none⟩,
        ⟨(some 15), .mv (.tmp 5), none⟩,
        ⟨(some 16), .iaddr 1 (.tmp 14) (.tmp 15), none⟩,
        ⟨(some 17), .load 1 false (.tmp 16), none⟩,
        ⟨(some 18), .mv (.tmp 0), none⟩,
        ⟨(some 19), .mv (.tmp 5), none⟩,
        ⟨(some 20), .bin .sub (.tmp 19) (.const (.int .i64 1)), none⟩,
        ⟨(some 21), .iaddr 1 (.tmp 18) (.tmp 20), none⟩,
        ⟨(some 22), .load 1 false (.tmp 21), none⟩,
        ⟨(some 23), .qcallv (.tmp 13) [(.tmp 17), (.tmp 22)], none⟩,
        ⟨(some 24), .bin .lss (.tmp 23) (.const (.int .i64 0)), none⟩] [0, 1, 5, 24])
    (.cond (.tmp 24)
     (.seq (.reg [
         ⟨(some 4), .mv (.const (.bool false)), none⟩] [4])
     (.ret))
     (.skip))))
   (.reg [
       ⟨(some 11), .mv (.tmp 5), none⟩,
       ⟨(some 12), .bin .sub (.tmp 11) (.const (.int .i64 1)), none⟩,
       ⟨(some 5), .mv (.tmp 12), none⟩] [0, 1, 5]))))))
 (.seq (.reg [
     ⟨(some 4), .mv (.const (.bool true)), none⟩] [4])
 (.ret)))
theorem s_slices_IsSortedFunc_LLint64_Lint64 : stripF Tryz.prog 78 [[0, 1], [0, 1, 5], [0, 1, 5], [0, 1, 5, 10], [0, 1, 5, 24], [4], [0, 1, 5], [4]] = some (c_slices_IsSortedFunc_LLint64_Lint64, [.tmp 4], 25) := by kernel_rfl

/-- loop.example/g00920/impl.areBlocks$1 -/
abbrev f_impl_areBlocks_c1 : Nat := 113
def c_impl_areBlocks_c1 : SC :=
 .seq (.reg [
     ⟨(some 3), .mv (.const (.bool false)), none⟩] [0, 1])
 (.seq (.reg [
     ⟨(some 4), .mv (.tmp 0), none⟩,
     ⟨(some 5), .load 1 false (.tmp 1), none⟩,
     ⟨(some 6), .call 114 [(.tmp 4), (.tmp 5)], none⟩,
     ⟨(some 7), .un .not (.tmp 6), none⟩,
     ⟨(some 3), .mv (.tmp 7), none⟩] [3])
 (.ret))
theorem s_impl_areBlocks_c1 : stripF Tryz.prog 113 [[0, 1], [3]] = some (c_impl_areBlocks_c1, [.tmp 3], 8) := by kernel_rfl


theorem get_appU {H : List Blk} {p : Nat} {b : Blk} (h : H[p]? = some b) (ext : List Blk) : (H ++ ext)[p]? = some b := by
  rw [List.getElem?_append_left (List.getElem?_eq_some_iff.1 h).1]; exact h
/-- Neighbours in a list. -/
def adjB {α : Type} (r : α → α → Bool) : List α → Bool
  | x :: y :: l => r x y && adjB r (y :: l)
  | _ => true
theorem adjB_snoc {α : Type} (r : α → α → Bool) (l : List α) (y x : α) : adjB r (l ++ [y] ++ [x]) = (adjB r (l ++ [y]) && r y x) := by
  induction l with
  | nil => simp [adjB]
  | cons a l ih =>
    cases l with
    | nil => simp [adjB]
    | cons b l =>
      simp only [List.cons_append, adjB] at ih ⊢
      rw [ih, Bool.and_assoc]
theorem adjB_pre {α : Type} (r : α → α → Bool) (l m : List α) (h : adjB r (l ++ m) = true) : adjB r l = true := by
  induction l with
  | nil => rfl
  | cons a l ih =>
    cases l with
    | nil => rfl
    | cons b l =>
      simp only [List.cons_append, adjB, Bool.and_eq_true] at ih h ⊢
      exact ⟨h.1, ih h.2⟩
theorem nilOrSnoc {α : Type} (xs : List α) : xs = [] ∨ ∃ r b, xs = r ++ [b] := by
  rcases List.eq_nil_or_concat xs with h | ⟨r, b, h⟩
  · exact .inl h
  · exact .inr ⟨r, b, by simpa using h⟩
/-- The element before the place, if there is one. -/
theorem lastOf {α : Type} {xs pre post : List α} {d : α} (h : xs = pre ++ post) (h0 : 0 < pre.length) : ∃ r b, pre = r ++ [b] ∧ xs.getD (pre.length - 1) d = b := by
  rcases nilOrSnoc pre with rfl | ⟨r, b, rfl⟩
  · simp at h0
  · refine ⟨r, b, by simp, ?_⟩
    subst h; simp

theorem cmpL_neg : ∀ (xs ys : List Int), cmpL ys xs = - cmpL xs ys
  | [], [] => rfl
  | [], y :: ys => rfl
  | x :: xs, [] => rfl
  | x :: xs, y :: ys => by
    simp only [cmpL]
    by_cases h1 : x < y
    · have h2 : ¬ y < x := by omega
      simp [h1, h2]
    · by_cases h2 : y < x
      · simp [h1, h2]
      · simp only [h1, h2, if_false]; exact cmpL_neg xs ys

/-- A function value that compares. -/
theorem isSorted_ok {α : Type} (enc : α → AV) (H : List Blk) (a : AV) (xs : List α) (ha : aview H a = some (xs.length, xs.map enc))
    (g : Nat) (cs : List AV) (hg : callable Tryz.prog g = true) (c : α → α → Int) (hc : ∀ x ∈ xs, ∀ y ∈ xs, PFn Tryz.prog g (enc x :: enc y :: cs) (I (c x y))) :
    ACalls Tryz.prog f_slices_IsSortedFunc_LLint64_Lint64 [a, .fn g cs] H (fun r H' => r = Bv (adjB (fun x y => !decide (c y x < 0)) xs) ∧ H' = H) := by
  rcases nilOrSnoc xs with rfl | ⟨pre0, x0, rfl⟩
  · refine ACalls.introB s_slices_IsSortedFunc_LLint64_Lint64 (by simp) ?_; intro hB hA; unfold c_slices_IsSortedFunc_LLint64_Lint64; simp (config := { maxSteps := 1000000 }) (disch := (first | omega | (simp only [go_sem]; try omega))) only [go_sem, Nat.reduceAdd, Nat.reduceEqDiff, Nat.reduceLeDiff, Nat.reduceMul, Nat.reduceLT, reduceIte, Int.reduceToNat, w64_id, cast_succ]
    repeat (first | (with_reducible first | refine SW.seq ?_ | refine SW.block ?_ | refine SW.rowC ?_ | refine SW.skip ?_ | refine SW.exit ?_ | intro _ | refine And.intro (by omega) ?_) | simp (config := { maxSteps := 1000000 }) (disch := (first | omega | (simp only [go_sem]; try omega))) only [go_sem, Nat.reduceAdd, Nat.reduceEqDiff, Nat.reduceLeDiff, Nat.reduceMul, Nat.reduceLT, reduceIte, Int.reduceToNat, w64_id, cast_succ, ha])
    refine SW.loopE (fun E0 H0 q E' H' => E' = E0 ∧ H' = H0) 0 ⟨rfl, rfl⟩ ?_
    rintro q E' H' ⟨rfl, rfl⟩
    simp (config := { maxSteps := 1000000 }) (disch := (first | omega | (simp only [go_sem]; try omega))) only [go_sem, Nat.reduceAdd, Nat.reduceEqDiff, Nat.reduceLeDiff, Nat.reduceMul, Nat.reduceLT, reduceIte, Int.reduceToNat, w64_id, cast_succ]
    repeat (first | (with_reducible first | refine SW.seq ?_ | refine SW.block ?_ | refine SW.rowC ?_ | refine SW.skip ?_ | refine SW.exit ?_ | intro _ | refine And.intro (by omega) ?_) | simp (config := { maxSteps := 1000000 }) (disch := (first | omega | (simp only [go_sem]; try omega))) only [go_sem, Nat.reduceAdd, Nat.reduceEqDiff, Nat.reduceLeDiff, Nat.reduceMul, Nat.reduceLT, reduceIte, Int.reduceToNat, w64_id, cast_succ])
    refine SW.condF rfl ?_
    repeat (first | (with_reducible first | refine SW.seq ?_ | refine SW.block ?_ | refine SW.rowC ?_ | refine SW.skip ?_ | refine SW.exit ?_ | intro _ | refine And.intro (by omega) ?_) | simp (config := { maxSteps := 1000000 }) (disch := (first | omega | (simp only [go_sem]; try omega))) only [go_sem, Nat.reduceAdd, Nat.reduceEqDiff, Nat.reduceLeDiff, Nat.reduceMul, Nat.reduceLT, reduceIte, Int.reduceToNat, w64_id, cast_succ])
    refine SW.ret ?_; (try simp only [go_sem]); (first | refine FunPost.one ?_ | refine FunPost.two ?_ | refine FunPost.three ?_); (try simp (config := { maxSteps := 1000000 }) (disch := (first | omega | (simp only [go_sem]; try omega))) only [go_sem, Nat.reduceAdd, Nat.reduceEqDiff, Nat.reduceLeDiff, Nat.reduceMul, Nat.reduceLT, reduceIte, Int.reduceToNat, w64_id, cast_succ]); (first | (with_reducible refine GR.drop ?_ ?_; (simp only [go_sem, and_self, and_true, true_and, implies_true, List.take_succ_cons, List.take_zero])) | refine GR.of ?_); refine ⟨?_, rfl⟩; (try with_reducible rfl)
    rfl
  · refine ACalls.introB s_slices_IsSortedFunc_LLint64_Lint64 (by simp) ?_; intro hB hA; unfold c_slices_IsSortedFunc_LLint64_Lint64; simp (config := { maxSteps := 1000000 }) (disch := (first | omega | (simp only [go_sem]; try omega))) only [go_sem, Nat.reduceAdd, Nat.reduceEqDiff, Nat.reduceLeDiff, Nat.reduceMul, Nat.reduceLT, reduceIte, Int.reduceToNat, w64_id, cast_succ]
    repeat (first | (with_reducible first | refine SW.seq ?_ | refine SW.block ?_ | refine SW.rowC ?_ | refine SW.skip ?_ | refine SW.exit ?_ | intro _ | refine And.intro (by omega) ?_) | simp (config := { maxSteps := 1000000 }) (disch := (first | omega | (simp only [go_sem]; try omega))) only [go_sem, Nat.reduceAdd, Nat.reduceEqDiff, Nat.reduceLeDiff, Nat.reduceMul, Nat.reduceLT, reduceIte, Int.reduceToNat, w64_id, cast_succ, ha])
    refine SW.loopE (fun E0 H0 q E' H' => ∃ (pre post : List α) (x : α), pre0 ++ [x0] = pre ++ x :: post ∧ q = pre.length ∧ E' = aput E0 5 (I pre.length) ∧ H' = H0 ∧ adjB (fun x y => !decide (c y x < 0)) (x :: post) = true) pre0.length ⟨pre0, [], x0, rfl, rfl, by simp [go_sem], rfl, rfl⟩ ?_
    rintro q E' H' ⟨pre, post, x, hp, rfl, rfl, rfl, hs⟩
    simp (config := { maxSteps := 1000000 }) (disch := (first | omega | (simp only [go_sem]; try omega))) only [go_sem, Nat.reduceAdd, Nat.reduceEqDiff, Nat.reduceLeDiff, Nat.reduceMul, Nat.reduceLT, reduceIte, Int.reduceToNat, w64_id, cast_succ]
    repeat (first | (with_reducible first | refine SW.seq ?_ | refine SW.block ?_ | refine SW.rowC ?_ | refine SW.skip ?_ | refine SW.exit ?_ | intro _ | refine And.intro (by omega) ?_) | simp (config := { maxSteps := 1000000 }) (disch := (first | omega | (simp only [go_sem]; try omega))) only [go_sem, Nat.reduceAdd, Nat.reduceEqDiff, Nat.reduceLeDiff, Nat.reduceMul, Nat.reduceLT, reduceIte, Int.reduceToNat, w64_id, cast_succ])
    (first | refine SW.condD rfl (fun h => ?_) (fun h => ?_) | refine SW.condN rfl (fun h => ?_) (fun h => ?_) | refine SW.condNB rfl (fun h => ?_) (fun h => ?_) | refine SW.condB rfl (fun h => ?_) (fun h => ?_))
    · obtain ⟨r, y, rfl, -⟩ := lastOf (d := x) hp (by omega)
      rw [hp] at ha
      have g1 : ((r ++ [y] ++ x :: post).map enc)[(r ++ [y]).length]? = some (enc x) := by simp
      have g2 : ((r ++ [y] ++ x :: post).map enc)[r.length]? = some (enc y) := by simp
      have hl2 : (((r ++ [y]).length : Nat) : Int) - 1 = (r.length : Int) := by simp
      have hl : (r ++ [y]).length = r.length + 1 := by simp
      have hl3 : (r ++ [y] ++ x :: post).length = r.length + 2 + post.length := by simp; omega
      generalize hL : r ++ [y] ++ x :: post = L at *
      generalize hM : (r ++ [y]).length = M at *
      have hcc := hc x (by rw [hp, ← hL]; simp) y (by rw [hp, ← hL]; simp)
      have hb : L.length = pre0.length + 1 := by rw [← hp]; simp
      repeat (first | (with_reducible first | refine SW.seq ?_ | refine SW.block ?_ | refine SW.rowC ?_ | refine SW.skip ?_ | refine SW.exit ?_ | intro _ | refine And.intro (by omega) ?_) | simp (config := { maxSteps := 1000000 }) (disch := (first | omega | (simp only [go_sem]; try omega))) only [go_sem, Nat.reduceAdd, Nat.reduceEqDiff, Nat.reduceLeDiff, Nat.reduceMul, Nat.reduceLT, reduceIte, Int.reduceToNat, w64_id, cast_succ, ha, g1, g2, hl2, hg])
      refine PFn.useq hcc ?_
      repeat (first | (with_reducible first | refine SW.seq ?_ | refine SW.block ?_ | refine SW.rowC ?_ | refine SW.skip ?_ | refine SW.exit ?_ | intro _ | refine And.intro (by omega) ?_) | simp (config := { maxSteps := 1000000 }) (disch := (first | omega | (simp only [go_sem]; try omega))) only [go_sem, Nat.reduceAdd, Nat.reduceEqDiff, Nat.reduceLeDiff, Nat.reduceMul, Nat.reduceLT, reduceIte, Int.reduceToNat, w64_id, cast_succ])
      (first | refine SW.condD rfl (fun h2 => ?_) (fun h2 => ?_) | refine SW.condN rfl (fun h2 => ?_) (fun h2 => ?_) | refine SW.condNB rfl (fun h2 => ?_) (fun h2 => ?_) | refine SW.condB rfl (fun h2 => ?_) (fun h2 => ?_))
      · repeat (first | (with_reducible first | refine SW.seq ?_ | refine SW.block ?_ | refine SW.rowC ?_ | refine SW.skip ?_ | refine SW.exit ?_ | intro _ | refine And.intro (by omega) ?_) | simp (config := { maxSteps := 1000000 }) (disch := (first | omega | (simp only [go_sem]; try omega))) only [go_sem, Nat.reduceAdd, Nat.reduceEqDiff, Nat.reduceLeDiff, Nat.reduceMul, Nat.reduceLT, reduceIte, Int.reduceToNat, w64_id, cast_succ])
        refine SW.ret ?_; (try simp only [go_sem]); (first | refine FunPost.one ?_ | refine FunPost.two ?_ | refine FunPost.three ?_); (try simp (config := { maxSteps := 1000000 }) (disch := (first | omega | (simp only [go_sem]; try omega))) only [go_sem, Nat.reduceAdd, Nat.reduceEqDiff, Nat.reduceLeDiff, Nat.reduceMul, Nat.reduceLT, reduceIte, Int.reduceToNat, w64_id, cast_succ]); (first | (with_reducible refine GR.drop ?_ ?_; (simp only [go_sem, and_self, and_true, true_and, implies_true, List.take_succ_cons, List.take_zero])) | refine GR.of ?_); refine ⟨?_, rfl⟩; (try with_reducible rfl)
        symm
        refine congrArg Bv ?_
        rw [hp, ← hL, Bool.eq_false_iff]
        intro h3
        have h4 := adjB_pre _ (r ++ [y] ++ [x]) post (by simpa using h3)
        rw [adjB_snoc] at h4
        simp [h2] at h4
      · repeat (first | (with_reducible first | refine SW.seq ?_ | refine SW.block ?_ | refine SW.rowC ?_ | refine SW.skip ?_ | refine SW.exit ?_ | intro _ | refine And.intro (by omega) ?_) | simp (config := { maxSteps := 1000000 }) (disch := (first | omega | (simp only [go_sem]; try omega))) only [go_sem, Nat.reduceAdd, Nat.reduceEqDiff, Nat.reduceLeDiff, Nat.reduceMul, Nat.reduceLT, reduceIte, Int.reduceToNat, w64_id, cast_succ])
        refine SLoop.next r.length (by omega) ⟨r, x :: post, y, by rw [hp, ← hL]; simp, rfl, ?_, rfl, ?_⟩
        · simp [go_sem, hl2]
        · simp [adjB, hs]; omega
    · have : pre = [] := by
        cases pre with
        | nil => rfl
        | cons y pre => exfalso; simp at h
      subst this
      rw [List.nil_append] at hp
      repeat (first | (with_reducible first | refine SW.seq ?_ | refine SW.block ?_ | refine SW.rowC ?_ | refine SW.skip ?_ | refine SW.exit ?_ | intro _ | refine And.intro (by omega) ?_) | simp (config := { maxSteps := 1000000 }) (disch := (first | omega | (simp only [go_sem]; try omega))) only [go_sem, Nat.reduceAdd, Nat.reduceEqDiff, Nat.reduceLeDiff, Nat.reduceMul, Nat.reduceLT, reduceIte, Int.reduceToNat, w64_id, cast_succ])
      refine SW.ret ?_; (try simp only [go_sem]); (first | refine FunPost.one ?_ | refine FunPost.two ?_ | refine FunPost.three ?_); (try simp (config := { maxSteps := 1000000 }) (disch := (first | omega | (simp only [go_sem]; try omega))) only [go_sem, Nat.reduceAdd, Nat.reduceEqDiff, Nat.reduceLeDiff, Nat.reduceMul, Nat.reduceLT, reduceIte, Int.reduceToNat, w64_id, cast_succ]); (first | (with_reducible refine GR.drop ?_ ?_; (simp only [go_sem, and_self, and_true, true_and, implies_true, List.take_succ_cons, List.take_zero])) | refine GR.of ?_); refine ⟨?_, rfl⟩; (try with_reducible rfl)
      rw [hp, hs]

theorem slicesCompare_call : callable Tryz.prog f_slices_Compare_Lint64_int64 = true := by kernel_rfl
/-- A block of points. -/
def blkB (v : Int) (b : List Int) : Bool := !b.isEmpty && asc 0 (v - 1) b
def designB (v : Int) (xss : List (List Int)) : Bool := decide (1 ≤ v) && decide (v ≤ 32) && xss.all (blkB v) && decide (xss.length ≤ 128) && adjB (fun x y => !decide (cmpL y x < 0)) xss

theorem areBlocks_c1_ok (H : List Blk) (p ty : Nat) (v : Int) (xs : List Int) (h0 : 1 ≤ v) (h1 : v ≤ 32) (hp : H[p]? = some ⟨0, ty, 1, [I v]⟩) : ACalls Tryz.prog f_impl_areBlocks_c1 [ilS xs, .pc p 0 0] H (fun r H' => r = Bv (!blkB v xs) ∧ H' = H) := by
  refine ACalls.introB s_impl_areBlocks_c1 (by simp) ?_; intro hB hA; unfold c_impl_areBlocks_c1; simp (config := { maxSteps := 1000000 }) (disch := (first | omega | (simp only [go_sem]; try omega))) only [go_sem, Nat.reduceAdd, Nat.reduceEqDiff, Nat.reduceLeDiff, Nat.reduceMul, Nat.reduceLT, reduceIte, Int.reduceToNat, w64_id, cast_succ]
  repeat (first | (with_reducible first | refine SW.seq ?_ | refine SW.block ?_ | refine SW.rowC ?_ | refine SW.skip ?_ | refine SW.exit ?_ | refine PFn.use (isBlock_fn xs v h0 h1) ?_ | refine PFn.useq (isBlock_fn xs v h0 h1) ?_ | intro _ | refine And.intro (by omega) ?_) | simp (config := { maxSteps := 1000000 }) (disch := (first | omega | (simp only [go_sem]; try omega))) only [go_sem, Nat.reduceAdd, Nat.reduceEqDiff, Nat.reduceLeDiff, Nat.reduceMul, Nat.reduceLT, reduceIte, Int.reduceToNat, w64_id, cast_succ, pc_ld hp, pc_alive hp])
  refine SW.ret ?_; (try simp only [go_sem]); (first | refine FunPost.one ?_ | refine FunPost.two ?_ | refine FunPost.three ?_); (try simp (config := { maxSteps := 1000000 }) (disch := (first | omega | (simp only [go_sem]; try omega))) only [go_sem, Nat.reduceAdd, Nat.reduceEqDiff, Nat.reduceLeDiff, Nat.reduceMul, Nat.reduceLT, reduceIte, Int.reduceToNat, w64_id, cast_succ]); (first | (with_reducible refine GR.drop ?_ ?_; (simp only [go_sem, and_self, and_true, true_and, implies_true, List.take_succ_cons, List.take_zero])) | refine GR.of ?_); refine ⟨?_, rfl⟩; (try with_reducible rfl)
  rfl

theorem areBlocks_fn (v : Int) (xss : List (List Int)) : PFn Tryz.prog f_impl_areBlocks [ilSS xss, I v] (Bv (decide (1 ≤ v) && decide (v ≤ 32) && xss.all (blkB v))) := by
  intro H; refine ACalls.introB s_impl_areBlocks (by simp) ?_; intro hB hA; unfold c_impl_areBlocks; simp (config := { maxSteps := 1000000 }) (disch := (first | omega | (simp only [go_sem]; try omega))) only [go_sem, Nat.reduceAdd, Nat.reduceEqDiff, Nat.reduceLeDiff, Nat.reduceMul, Nat.reduceLT, reduceIte, Int.reduceToNat, w64_id, cast_succ]
  repeat (first | (with_reducible first | refine SW.seq ?_ | refine SW.block ?_ | refine SW.rowC ?_ | refine SW.skip ?_ | refine SW.exit ?_ | refine PFn.use (within_fn _ _ _) ?_ | refine PFn.useq (within_fn _ _ _) ?_ | intro _ | refine And.intro (by omega) ?_) | simp (config := { maxSteps := 1000000 }) (disch := (first | omega | (simp only [go_sem]; try omega))) only [go_sem, Nat.reduceAdd, Nat.reduceEqDiff, Nat.reduceLeDiff, Nat.reduceMul, Nat.reduceLT, reduceIte, Int.reduceToNat, w64_id, cast_succ])
  (first | refine GSplit.df (fun h => ?_) (fun h => ?_) | refine GSplit.dt (fun h => ?_) (fun h => ?_) | refine GSplit.ndf (fun h => ?_) (fun h => ?_) | refine GSplit.ndt (fun h => ?_) (fun h => ?_) | refine GSplit.nbf (fun h => ?_) (fun h => ?_) | refine GSplit.nbt (fun h => ?_) (fun h => ?_) | refine GSplit.bf (fun h => ?_) (fun h => ?_) | refine GSplit.bt (fun h => ?_) (fun h => ?_))
  · simp only [Bool.and_eq_true, decide_eq_true_eq] at h
    repeat (first | (with_reducible first | refine SW.seq ?_ | refine SW.block ?_ | refine SW.rowC ?_ | refine SW.skip ?_ | refine SW.exit ?_ | intro _ | refine And.intro (by omega) ?_) | simp (config := { maxSteps := 1000000 }) (disch := (first | omega | (simp only [go_sem]; try omega))) only [go_sem, Nat.reduceAdd, Nat.reduceEqDiff, Nat.reduceLeDiff, Nat.reduceMul, Nat.reduceLT, reduceIte, Int.reduceToNat, w64_id, cast_succ])
    refine (conSS_ok ilS _ _ xss rfl _ _ (by kernel_rfl) (fun xs => !blkB v xs) (fun xs hxs => areBlocks_c1_ok _ H.length 2 v xs h.1 h.2 (by simp))).mono ?_
    rintro r H' ⟨rfl, rfl⟩
    repeat (first | (with_reducible first | refine SW.seq ?_ | refine SW.block ?_ | refine SW.rowC ?_ | refine SW.skip ?_ | refine SW.exit ?_ | intro _ | refine And.intro (by omega) ?_) | simp (config := { maxSteps := 1000000 }) (disch := (first | omega | (simp only [go_sem]; try omega))) only [go_sem, Nat.reduceAdd, Nat.reduceEqDiff, Nat.reduceLeDiff, Nat.reduceMul, Nat.reduceLT, reduceIte, Int.reduceToNat, w64_id, cast_succ])
    refine SW.ret ?_; (try simp only [go_sem]); (first | refine FunPost.one ?_ | refine FunPost.two ?_ | refine FunPost.three ?_); (try simp (config := { maxSteps := 1000000 }) (disch := (first | omega | (simp only [go_sem]; try omega))) only [go_sem, Nat.reduceAdd, Nat.reduceEqDiff, Nat.reduceLeDiff, Nat.reduceMul, Nat.reduceLT, reduceIte, Int.reduceToNat, w64_id, cast_succ]); (first | (with_reducible refine GR.drop ?_ ?_; (simp only [go_sem, and_self, and_true, true_and, implies_true, List.take_succ_cons, List.take_zero])) | refine GR.of ?_); refine ⟨?_, rfl⟩; (try with_reducible rfl)
    simp [h, List.any_eq_not_all_not]
  · repeat (first | (with_reducible first | refine SW.seq ?_ | refine SW.block ?_ | refine SW.rowC ?_ | refine SW.skip ?_ | refine SW.exit ?_ | intro _ | refine And.intro (by omega) ?_) | simp (config := { maxSteps := 1000000 }) (disch := (first | omega | (simp only [go_sem]; try omega))) only [go_sem, Nat.reduceAdd, Nat.reduceEqDiff, Nat.reduceLeDiff, Nat.reduceMul, Nat.reduceLT, reduceIte, Int.reduceToNat, w64_id, cast_succ])
    refine SW.ret ?_; (try simp only [go_sem]); (first | refine FunPost.one ?_ | refine FunPost.two ?_ | refine FunPost.three ?_); (try simp (config := { maxSteps := 1000000 }) (disch := (first | omega | (simp only [go_sem]; try omega))) only [go_sem, Nat.reduceAdd, Nat.reduceEqDiff, Nat.reduceLeDiff, Nat.reduceMul, Nat.reduceLT, reduceIte, Int.reduceToNat, w64_id, cast_succ]); (first | (with_reducible refine GR.drop ?_ ?_; (simp only [go_sem, and_self, and_true, true_and, implies_true, List.take_succ_cons, List.take_zero])) | refine GR.of ?_); refine ⟨?_, rfl⟩; (try with_reducible rfl)
    rw [h]; rfl

theorem ValidDesign_fn (v : Int) (xss : List (List Int)) : PFn Tryz.prog f_impl_ValidDesign [.agg [I v, ilSS xss]] (Bv (designB v xss)) := by
  intro H; refine ACalls.introB s_impl_ValidDesign (by simp) ?_; intro hB hA; unfold c_impl_ValidDesign; simp (config := { maxSteps := 1000000 }) (disch := (first | omega | (simp only [go_sem]; try omega))) only [go_sem, Nat.reduceAdd, Nat.reduceEqDiff, Nat.reduceLeDiff, Nat.reduceMul, Nat.reduceLT, reduceIte, Int.reduceToNat, w64_id, cast_succ]
  repeat (first | (with_reducible first | refine SW.seq ?_ | refine SW.block ?_ | refine SW.rowC ?_ | refine SW.skip ?_ | refine SW.exit ?_ | refine PFn.use (areBlocks_fn v xss) ?_ | refine PFn.useq (areBlocks_fn v xss) ?_ | intro _ | refine And.intro (by omega) ?_) | simp (config := { maxSteps := 1000000 }) (disch := (first | omega | (simp only [go_sem]; try omega))) only [go_sem, Nat.reduceAdd, Nat.reduceEqDiff, Nat.reduceLeDiff, Nat.reduceMul, Nat.reduceLT, reduceIte, Int.reduceToNat, w64_id, cast_succ])
  (first | refine GSplit.df (fun h => ?_) (fun h => ?_) | refine GSplit.dt (fun h => ?_) (fun h => ?_) | refine GSplit.ndf (fun h => ?_) (fun h => ?_) | refine GSplit.ndt (fun h => ?_) (fun h => ?_) | refine GSplit.nbf (fun h => ?_) (fun h => ?_) | refine GSplit.nbt (fun h => ?_) (fun h => ?_) | refine GSplit.bf (fun h => ?_) (fun h => ?_) | refine GSplit.bt (fun h => ?_) (fun h => ?_))
  · repeat (first | (with_reducible first | refine SW.seq ?_ | refine SW.block ?_ | refine SW.rowC ?_ | refine SW.skip ?_ | refine SW.exit ?_ | intro _ | refine And.intro (by omega) ?_) | simp (config := { maxSteps := 1000000 }) (disch := (first | omega | (simp only [go_sem]; try omega))) only [go_sem, Nat.reduceAdd, Nat.reduceEqDiff, Nat.reduceLeDiff, Nat.reduceMul, Nat.reduceLT, reduceIte, Int.reduceToNat, w64_id, cast_succ])
    (first | refine GSplit.df (fun h2 => ?_) (fun h2 => ?_) | refine GSplit.dt (fun h2 => ?_) (fun h2 => ?_) | refine GSplit.ndf (fun h2 => ?_) (fun h2 => ?_) | refine GSplit.ndt (fun h2 => ?_) (fun h2 => ?_) | refine GSplit.nbf (fun h2 => ?_) (fun h2 => ?_) | refine GSplit.nbt (fun h2 => ?_) (fun h2 => ?_) | refine GSplit.bf (fun h2 => ?_) (fun h2 => ?_) | refine GSplit.bt (fun h2 => ?_) (fun h2 => ?_))
    · repeat (first | (with_reducible first | refine SW.seq ?_ | refine SW.block ?_ | refine SW.rowC ?_ | refine SW.skip ?_ | refine SW.exit ?_ | intro _ | refine And.intro (by omega) ?_) | simp (config := { maxSteps := 1000000 }) (disch := (first | omega | (simp only [go_sem]; try omega))) only [go_sem, Nat.reduceAdd, Nat.reduceEqDiff, Nat.reduceLeDiff, Nat.reduceMul, Nat.reduceLT, reduceIte, Int.reduceToNat, w64_id, cast_succ])
      refine (isSorted_ok ilS _ _ xss rfl _ _ slicesCompare_call cmpL (fun x _ y _ => slicesCompare_fn x y)).mono ?_
      rintro r H' ⟨rfl, rfl⟩
      repeat (first | (with_reducible first | refine SW.seq ?_ | refine SW.block ?_ | refine SW.rowC ?_ | refine SW.skip ?_ | refine SW.exit ?_ | intro _ | refine And.intro (by omega) ?_) | simp (config := { maxSteps := 1000000 }) (disch := (first | omega | (simp only [go_sem]; try omega))) only [go_sem, Nat.reduceAdd, Nat.reduceEqDiff, Nat.reduceLeDiff, Nat.reduceMul, Nat.reduceLT, reduceIte, Int.reduceToNat, w64_id, cast_succ])
      refine SW.ret ?_; (try simp only [go_sem]); (first | refine FunPost.one ?_ | refine FunPost.two ?_ | refine FunPost.three ?_); (try simp (config := { maxSteps := 1000000 }) (disch := (first | omega | (simp only [go_sem]; try omega))) only [go_sem, Nat.reduceAdd, Nat.reduceEqDiff, Nat.reduceLeDiff, Nat.reduceMul, Nat.reduceLT, reduceIte, Int.reduceToNat, w64_id, cast_succ]); (first | (with_reducible refine GR.drop ?_ ?_; (simp only [go_sem, and_self, and_true, true_and, implies_true, List.take_succ_cons, List.take_zero])) | refine GR.of ?_); refine ⟨?_, rfl⟩; (try with_reducible rfl)
      rw [designB, h, decide_eq_true (show xss.length ≤ 128 by omega)]; simp
    · repeat (first | (with_reducible first | refine SW.seq ?_ | refine SW.block ?_ | refine SW.rowC ?_ | refine SW.skip ?_ | refine SW.exit ?_ | intro _ | refine And.intro (by omega) ?_) | simp (config := { maxSteps := 1000000 }) (disch := (first | omega | (simp only [go_sem]; try omega))) only [go_sem, Nat.reduceAdd, Nat.reduceEqDiff, Nat.reduceLeDiff, Nat.reduceMul, Nat.reduceLT, reduceIte, Int.reduceToNat, w64_id, cast_succ])
      refine SW.ret ?_; (try simp only [go_sem]); (first | refine FunPost.one ?_ | refine FunPost.two ?_ | refine FunPost.three ?_); (try simp (config := { maxSteps := 1000000 }) (disch := (first | omega | (simp only [go_sem]; try omega))) only [go_sem, Nat.reduceAdd, Nat.reduceEqDiff, Nat.reduceLeDiff, Nat.reduceMul, Nat.reduceLT, reduceIte, Int.reduceToNat, w64_id, cast_succ]); (first | (with_reducible refine GR.drop ?_ ?_; (simp only [go_sem, and_self, and_true, true_and, implies_true, List.take_succ_cons, List.take_zero])) | refine GR.of ?_); refine ⟨?_, rfl⟩; (try with_reducible rfl)
      rw [designB, h, decide_eq_false (show ¬ xss.length ≤ 128 by omega)]; simp
  · repeat (first | (with_reducible first | refine SW.seq ?_ | refine SW.block ?_ | refine SW.rowC ?_ | refine SW.skip ?_ | refine SW.exit ?_ | intro _ | refine And.intro (by omega) ?_) | simp (config := { maxSteps := 1000000 }) (disch := (first | omega | (simp only [go_sem]; try omega))) only [go_sem, Nat.reduceAdd, Nat.reduceEqDiff, Nat.reduceLeDiff, Nat.reduceMul, Nat.reduceLT, reduceIte, Int.reduceToNat, w64_id, cast_succ])
    refine SW.ret ?_; (try simp only [go_sem]); (first | refine FunPost.one ?_ | refine FunPost.two ?_ | refine FunPost.three ?_); (try simp (config := { maxSteps := 1000000 }) (disch := (first | omega | (simp only [go_sem]; try omega))) only [go_sem, Nat.reduceAdd, Nat.reduceEqDiff, Nat.reduceLeDiff, Nat.reduceMul, Nat.reduceLT, reduceIte, Int.reduceToNat, w64_id, cast_succ]); (first | (with_reducible refine GR.drop ?_ ?_; (simp only [go_sem, and_self, and_true, true_and, implies_true, List.take_succ_cons, List.take_zero])) | refine GR.of ?_); refine ⟨?_, rfl⟩; (try with_reducible rfl)
    rw [designB, h]; simp

theorem l10Ok_ok (H : List Blk) (p ver : Nat) (v : Int) (xss : List (List Int)) (hx : ∀ xs ∈ xss, ∀ x ∈ xs, (Lit.int .i64 x).wf = true) (hp : H[p]? = some ⟨ver, 31, 1, [I v, ilSS xss]⟩) :
    ACalls Tryz.prog f_spec_l10Ok [.pc p ver 0] H (fun r H' => r = Bv (designB v xss) ∧ H' = H) := by
  refine ACalls.introB s_spec_l10Ok (by simp) ?_; intro hB hA; unfold c_spec_l10Ok; simp (config := { maxSteps := 1000000 }) (disch := (first | omega | (simp only [go_sem]; try omega))) only [go_sem, Nat.reduceAdd, Nat.reduceEqDiff, Nat.reduceLeDiff, Nat.reduceMul, Nat.reduceLT, reduceIte, Int.reduceToNat, w64_id, cast_succ]
  repeat (first | (with_reducible first | refine SW.seq ?_ | refine SW.block ?_ | refine SW.rowC ?_ | refine SW.skip ?_ | refine SW.exit ?_ | refine PFn.use (l00In_fn _ _ _) ?_ | refine PFn.useq (l00In_fn _ _ _) ?_ | intro _ | refine And.intro (by omega) ?_) | simp (config := { maxSteps := 1000000 }) (disch := (first | omega | (simp only [go_sem]; try omega))) only [go_sem, Nat.reduceAdd, Nat.reduceEqDiff, Nat.reduceLeDiff, Nat.reduceMul, Nat.reduceLT, reduceIte, Int.reduceToNat, w64_id, cast_succ, pc_ld hp, pc_alive hp])
  (first | refine GSplit.df (fun h => ?_) (fun h => ?_) | refine GSplit.dt (fun h => ?_) (fun h => ?_) | refine GSplit.ndf (fun h => ?_) (fun h => ?_) | refine GSplit.ndt (fun h => ?_) (fun h => ?_) | refine GSplit.nbf (fun h => ?_) (fun h => ?_) | refine GSplit.nbt (fun h => ?_) (fun h => ?_) | refine GSplit.bf (fun h => ?_) (fun h => ?_) | refine GSplit.bt (fun h => ?_) (fun h => ?_))
  · simp only [Bool.and_eq_true, decide_eq_true_eq] at h
    repeat (first | (with_reducible first | refine SW.seq ?_ | refine SW.block ?_ | refine SW.rowC ?_ | refine SW.skip ?_ | refine SW.exit ?_ | intro _ | refine And.intro (by omega) ?_) | simp (config := { maxSteps := 1000000 }) (disch := (first | omega | (simp only [go_sem]; try omega))) only [go_sem, Nat.reduceAdd, Nat.reduceEqDiff, Nat.reduceLeDiff, Nat.reduceMul, Nat.reduceLT, reduceIte, Int.reduceToNat, w64_id, cast_succ, pc_ld hp, pc_alive hp])
    (first | refine SW.condD rfl (fun h2 => ?_) (fun h2 => ?_) | refine SW.condN rfl (fun h2 => ?_) (fun h2 => ?_) | refine SW.condNB rfl (fun h2 => ?_) (fun h2 => ?_) | refine SW.condB rfl (fun h2 => ?_) (fun h2 => ?_))
    · repeat (first | (with_reducible first | refine SW.seq ?_ | refine SW.block ?_ | refine SW.rowC ?_ | refine SW.skip ?_ | refine SW.exit ?_ | intro _ | refine And.intro (by omega) ?_) | simp (config := { maxSteps := 1000000 }) (disch := (first | omega | (simp only [go_sem]; try omega))) only [go_sem, Nat.reduceAdd, Nat.reduceEqDiff, Nat.reduceLeDiff, Nat.reduceMul, Nat.reduceLT, reduceIte, Int.reduceToNat, w64_id, cast_succ])
      refine SW.ret ?_; (try simp only [go_sem]); (first | refine FunPost.one ?_ | refine FunPost.two ?_ | refine FunPost.three ?_); (try simp (config := { maxSteps := 1000000 }) (disch := (first | omega | (simp only [go_sem]; try omega))) only [go_sem, Nat.reduceAdd, Nat.reduceEqDiff, Nat.reduceLeDiff, Nat.reduceMul, Nat.reduceLT, reduceIte, Int.reduceToNat, w64_id, cast_succ]); (first | (with_reducible refine GR.drop ?_ ?_; (simp only [go_sem, and_self, and_true, true_and, implies_true, List.take_succ_cons, List.take_zero])) | refine GR.of ?_); refine ⟨?_, rfl⟩; (try with_reducible rfl)
      rw [designB, decide_eq_false (show ¬ xss.length ≤ 128 by omega)]; simp
    repeat (first | (with_reducible first | refine SW.seq ?_ | refine SW.block ?_ | refine SW.rowC ?_ | refine SW.skip ?_ | refine SW.exit ?_ | intro _ | refine And.intro (by omega) ?_) | simp (config := { maxSteps := 1000000 }) (disch := (first | omega | (simp only [go_sem]; try omega))) only [go_sem, Nat.reduceAdd, Nat.reduceEqDiff, Nat.reduceLeDiff, Nat.reduceMul, Nat.reduceLT, reduceIte, Int.reduceToNat, w64_id, cast_succ])
    refine SW.loopE (fun E0 H0 q E' H' => ∃ (pre post : List (List Int)), xss = pre ++ post ∧ q = post.length ∧ E' = aput E0 3 (I pre.length) ∧ H' = H0 ∧ pre.all (blkB v) = true ∧ adjB (fun x y => !decide (cmpL y x < 0)) pre = true) xss.length ⟨[], xss, rfl, rfl, rfl, rfl, rfl, rfl⟩ ?_
    rintro q E' H' ⟨pre, post, hq, rfl, rfl, rfl, ha, hs⟩
    simp (config := { maxSteps := 1000000 }) (disch := (first | omega | (simp only [go_sem]; try omega))) only [go_sem, Nat.reduceAdd, Nat.reduceEqDiff, Nat.reduceLeDiff, Nat.reduceMul, Nat.reduceLT, reduceIte, Int.reduceToNat, w64_id, cast_succ]
    repeat (first | (with_reducible first | refine SW.seq ?_ | refine SW.block ?_ | refine SW.rowC ?_ | refine SW.skip ?_ | refine SW.exit ?_ | intro _ | refine And.intro (by omega) ?_) | simp (config := { maxSteps := 1000000 }) (disch := (first | omega | (simp only [go_sem]; try omega))) only [go_sem, Nat.reduceAdd, Nat.reduceEqDiff, Nat.reduceLeDiff, Nat.reduceMul, Nat.reduceLT, reduceIte, Int.reduceToNat, w64_id, cast_succ, pc_ld hp, pc_alive hp])
    (first | refine SW.condD rfl (fun h3 => ?_) (fun h3 => ?_) | refine SW.condN rfl (fun h3 => ?_) (fun h3 => ?_) | refine SW.condNB rfl (fun h3 => ?_) (fun h3 => ?_) | refine SW.condB rfl (fun h3 => ?_) (fun h3 => ?_))
    · obtain ⟨x, post, rfl, hg, -⟩ := consOf (d := []) hq (by omega)
      have hb := l10Block_fn x v (hx x (by rw [hq]; simp)) (by omega) (by omega)
      repeat (first | (with_reducible first | refine SW.seq ?_ | refine SW.block ?_ | refine SW.rowC ?_ | refine SW.skip ?_ | refine SW.exit ?_ | refine PFn.use (hb) ?_ | refine PFn.useq (hb) ?_ | intro _ | refine And.intro (by omega) ?_) | simp (config := { maxSteps := 1000000 }) (disch := (first | omega | (simp only [go_sem]; try omega))) only [go_sem, Nat.reduceAdd, Nat.reduceEqDiff, Nat.reduceLeDiff, Nat.reduceMul, Nat.reduceLT, reduceIte, Int.reduceToNat, w64_id, cast_succ, pc_ld hp, pc_alive hp, hg])
      have bad : (blkB v x = false ∨ adjB (fun x y => !decide (cmpL y x < 0)) (pre ++ [x]) = false) → designB v xss = false := by
        intro hh
        rw [Bool.eq_false_iff]
        intro hd
        simp only [designB, Bool.and_eq_true] at hd
        rcases hh with hh | hh
        · have := List.all_eq_true.1 hd.1.1.2 x (by rw [hq]; simp)
          rw [hh] at this; cases this
        · have := adjB_pre (fun x y => !decide (cmpL y x < 0)) (pre ++ [x]) post (by rw [← hd.2, hq]; simp)
          rw [hh] at this; cases this
      (first | refine GSplit.df (fun h4 => ?_) (fun h4 => ?_) | refine GSplit.dt (fun h4 => ?_) (fun h4 => ?_) | refine GSplit.ndf (fun h4 => ?_) (fun h4 => ?_) | refine GSplit.ndt (fun h4 => ?_) (fun h4 => ?_) | refine GSplit.nbf (fun h4 => ?_) (fun h4 => ?_) | refine GSplit.nbt (fun h4 => ?_) (fun h4 => ?_) | refine GSplit.bf (fun h4 => ?_) (fun h4 => ?_) | refine GSplit.bt (fun h4 => ?_) (fun h4 => ?_))
      · (first | refine GSplit.df (fun h5 => ?_) (fun h5 => ?_) | refine GSplit.dt (fun h5 => ?_) (fun h5 => ?_) | refine GSplit.ndf (fun h5 => ?_) (fun h5 => ?_) | refine GSplit.ndt (fun h5 => ?_) (fun h5 => ?_) | refine GSplit.nbf (fun h5 => ?_) (fun h5 => ?_) | refine GSplit.nbt (fun h5 => ?_) (fun h5 => ?_) | refine GSplit.bf (fun h5 => ?_) (fun h5 => ?_) | refine GSplit.bt (fun h5 => ?_) (fun h5 => ?_))
        · obtain ⟨r, y, hr, hg2⟩ := lastOf (d := []) hq (by omega)
          have e1 : (pre.length : Int) - 1 = ((pre.length - 1 : Nat) : Int) := by omega
          repeat (first | (with_reducible first | refine SW.seq ?_ | refine SW.block ?_ | refine SW.rowC ?_ | refine SW.skip ?_ | refine SW.exit ?_ | refine PFn.use (CompareLists_fn _ _) ?_ | refine PFn.useq (CompareLists_fn _ _) ?_ | intro _ | refine And.intro (by omega) ?_) | simp (config := { maxSteps := 1000000 }) (disch := (first | omega | (simp only [go_sem]; try omega))) only [go_sem, Nat.reduceAdd, Nat.reduceEqDiff, Nat.reduceLeDiff, Nat.reduceMul, Nat.reduceLT, reduceIte, Int.reduceToNat, w64_id, cast_succ, e1, hg, hg2, pc_ld hp, pc_alive hp])
          (first | refine SW.condD rfl (fun h6 => ?_) (fun h6 => ?_) | refine SW.condN rfl (fun h6 => ?_) (fun h6 => ?_) | refine SW.condNB rfl (fun h6 => ?_) (fun h6 => ?_) | refine SW.condB rfl (fun h6 => ?_) (fun h6 => ?_))
          · repeat (first | (with_reducible first | refine SW.seq ?_ | refine SW.block ?_ | refine SW.rowC ?_ | refine SW.skip ?_ | refine SW.exit ?_ | intro _ | refine And.intro (by omega) ?_) | simp (config := { maxSteps := 1000000 }) (disch := (first | omega | (simp only [go_sem]; try omega))) only [go_sem, Nat.reduceAdd, Nat.reduceEqDiff, Nat.reduceLeDiff, Nat.reduceMul, Nat.reduceLT, reduceIte, Int.reduceToNat, w64_id, cast_succ])
            refine SW.ret ?_; (try simp only [go_sem]); (first | refine FunPost.one ?_ | refine FunPost.two ?_ | refine FunPost.three ?_); (try simp (config := { maxSteps := 1000000 }) (disch := (first | omega | (simp only [go_sem]; try omega))) only [go_sem, Nat.reduceAdd, Nat.reduceEqDiff, Nat.reduceLeDiff, Nat.reduceMul, Nat.reduceLT, reduceIte, Int.reduceToNat, w64_id, cast_succ]); (first | (with_reducible refine GR.drop ?_ ?_; (simp only [go_sem, and_self, and_true, true_and, implies_true, List.take_succ_cons, List.take_zero])) | refine GR.of ?_); refine ⟨?_, rfl⟩; (try with_reducible rfl)
            rw [bad (.inr ?_)]
            rw [hr, adjB_snoc]
            have := cmpL_neg y x
            simp; omega
          · repeat (first | (with_reducible first | refine SW.seq ?_ | refine SW.block ?_ | refine SW.rowC ?_ | refine SW.skip ?_ | refine SW.exit ?_ | intro _ | refine And.intro (by omega) ?_) | simp (config := { maxSteps := 1000000 }) (disch := (first | omega | (simp only [go_sem]; try omega))) only [go_sem, Nat.reduceAdd, Nat.reduceEqDiff, Nat.reduceLeDiff, Nat.reduceMul, Nat.reduceLT, reduceIte, Int.reduceToNat, w64_id, cast_succ])
            refine SLoop.next post.length (by simp) ⟨pre ++ [x], post, by simp [hq], rfl, ?_, rfl, ?_, ?_⟩
            · simp [go_sem]
            · rw [List.all_append, ha]; simp [blkB]; simpa using h4
            · rw [hr, adjB_snoc, ← hr, hs]; have := cmpL_neg y x; simp; omega
        · have : pre = [] := by
            cases pre with
            | nil => rfl
            | cons y pre => exfalso; simp at h5
          subst this
          repeat (first | (with_reducible first | refine SW.seq ?_ | refine SW.block ?_ | refine SW.rowC ?_ | refine SW.skip ?_ | refine SW.exit ?_ | intro _ | refine And.intro (by omega) ?_) | simp (config := { maxSteps := 1000000 }) (disch := (first | omega | (simp only [go_sem]; try omega))) only [go_sem, Nat.reduceAdd, Nat.reduceEqDiff, Nat.reduceLeDiff, Nat.reduceMul, Nat.reduceLT, reduceIte, Int.reduceToNat, w64_id, cast_succ])
          (first | refine SW.condD rfl (fun h6 => ?_) (fun h6 => ?_) | refine SW.condN rfl (fun h6 => ?_) (fun h6 => ?_) | refine SW.condNB rfl (fun h6 => ?_) (fun h6 => ?_) | refine SW.condB rfl (fun h6 => ?_) (fun h6 => ?_))
          · cases h6
          repeat (first | (with_reducible first | refine SW.seq ?_ | refine SW.block ?_ | refine SW.rowC ?_ | refine SW.skip ?_ | refine SW.exit ?_ | intro _ | refine And.intro (by omega) ?_) | simp (config := { maxSteps := 1000000 }) (disch := (first | omega | (simp only [go_sem]; try omega))) only [go_sem, Nat.reduceAdd, Nat.reduceEqDiff, Nat.reduceLeDiff, Nat.reduceMul, Nat.reduceLT, reduceIte, Int.reduceToNat, w64_id, cast_succ])
          refine SLoop.next post.length (by simp) ⟨[] ++ [x], post, by simp [hq], rfl, ?_, rfl, ?_, rfl⟩
          · simp [go_sem]
          · simp [blkB]; simpa using h4
      · repeat (first | (with_reducible first | refine SW.seq ?_ | refine SW.block ?_ | refine SW.rowC ?_ | refine SW.skip ?_ | refine SW.exit ?_ | intro _ | refine And.intro (by omega) ?_) | simp (config := { maxSteps := 1000000 }) (disch := (first | omega | (simp only [go_sem]; try omega))) only [go_sem, Nat.reduceAdd, Nat.reduceEqDiff, Nat.reduceLeDiff, Nat.reduceMul, Nat.reduceLT, reduceIte, Int.reduceToNat, w64_id, cast_succ])
        (first | refine SW.condD rfl (fun h6 => ?_) (fun h6 => ?_) | refine SW.condN rfl (fun h6 => ?_) (fun h6 => ?_) | refine SW.condNB rfl (fun h6 => ?_) (fun h6 => ?_) | refine SW.condB rfl (fun h6 => ?_) (fun h6 => ?_))
        · repeat (first | (with_reducible first | refine SW.seq ?_ | refine SW.block ?_ | refine SW.rowC ?_ | refine SW.skip ?_ | refine SW.exit ?_ | intro _ | refine And.intro (by omega) ?_) | simp (config := { maxSteps := 1000000 }) (disch := (first | omega | (simp only [go_sem]; try omega))) only [go_sem, Nat.reduceAdd, Nat.reduceEqDiff, Nat.reduceLeDiff, Nat.reduceMul, Nat.reduceLT, reduceIte, Int.reduceToNat, w64_id, cast_succ])
          refine SW.ret ?_; (try simp only [go_sem]); (first | refine FunPost.one ?_ | refine FunPost.two ?_ | refine FunPost.three ?_); (try simp (config := { maxSteps := 1000000 }) (disch := (first | omega | (simp only [go_sem]; try omega))) only [go_sem, Nat.reduceAdd, Nat.reduceEqDiff, Nat.reduceLeDiff, Nat.reduceMul, Nat.reduceLT, reduceIte, Int.reduceToNat, w64_id, cast_succ]); (first | (with_reducible refine GR.drop ?_ ?_; (simp only [go_sem, and_self, and_true, true_and, implies_true, List.take_succ_cons, List.take_zero])) | refine GR.of ?_); refine ⟨?_, rfl⟩; (try with_reducible rfl)
          rw [bad (.inl ?_)]
          unfold blkB
          simpa using h4
        · cases h6
    · obtain ⟨rfl, rfl⟩ := nilOf hq (by omega)
      repeat (first | (with_reducible first | refine SW.seq ?_ | refine SW.block ?_ | refine SW.rowC ?_ | refine SW.skip ?_ | refine SW.exit ?_ | intro _ | refine And.intro (by omega) ?_) | simp (config := { maxSteps := 1000000 }) (disch := (first | omega | (simp only [go_sem]; try omega))) only [go_sem, Nat.reduceAdd, Nat.reduceEqDiff, Nat.reduceLeDiff, Nat.reduceMul, Nat.reduceLT, reduceIte, Int.reduceToNat, w64_id, cast_succ])
      refine SW.ret ?_; (try simp only [go_sem]); (first | refine FunPost.one ?_ | refine FunPost.two ?_ | refine FunPost.three ?_); (try simp (config := { maxSteps := 1000000 }) (disch := (first | omega | (simp only [go_sem]; try omega))) only [go_sem, Nat.reduceAdd, Nat.reduceEqDiff, Nat.reduceLeDiff, Nat.reduceMul, Nat.reduceLT, reduceIte, Int.reduceToNat, w64_id, cast_succ]); (first | (with_reducible refine GR.drop ?_ ?_; (simp only [go_sem, and_self, and_true, true_and, implies_true, List.take_succ_cons, List.take_zero])) | refine GR.of ?_); refine ⟨?_, rfl⟩; (try with_reducible rfl)
      rw [designB, decide_eq_true (show pre.length ≤ 128 by omega), decide_eq_true h.1, decide_eq_true h.2, ha, hs]; rfl
  · repeat (first | (with_reducible first | refine SW.seq ?_ | refine SW.block ?_ | refine SW.rowC ?_ | refine SW.skip ?_ | refine SW.exit ?_ | intro _ | refine And.intro (by omega) ?_) | simp (config := { maxSteps := 1000000 }) (disch := (first | omega | (simp only [go_sem]; try omega))) only [go_sem, Nat.reduceAdd, Nat.reduceEqDiff, Nat.reduceLeDiff, Nat.reduceMul, Nat.reduceLT, reduceIte, Int.reduceToNat, w64_id, cast_succ])
    (first | refine SW.condD rfl (fun h2 => ?_) (fun h2 => ?_) | refine SW.condN rfl (fun h2 => ?_) (fun h2 => ?_) | refine SW.condNB rfl (fun h2 => ?_) (fun h2 => ?_) | refine SW.condB rfl (fun h2 => ?_) (fun h2 => ?_))
    · repeat (first | (with_reducible first | refine SW.seq ?_ | refine SW.block ?_ | refine SW.rowC ?_ | refine SW.skip ?_ | refine SW.exit ?_ | intro _ | refine And.intro (by omega) ?_) | simp (config := { maxSteps := 1000000 }) (disch := (first | omega | (simp only [go_sem]; try omega))) only [go_sem, Nat.reduceAdd, Nat.reduceEqDiff, Nat.reduceLeDiff, Nat.reduceMul, Nat.reduceLT, reduceIte, Int.reduceToNat, w64_id, cast_succ])
      refine SW.ret ?_; (try simp only [go_sem]); (first | refine FunPost.one ?_ | refine FunPost.two ?_ | refine FunPost.three ?_); (try simp (config := { maxSteps := 1000000 }) (disch := (first | omega | (simp only [go_sem]; try omega))) only [go_sem, Nat.reduceAdd, Nat.reduceEqDiff, Nat.reduceLeDiff, Nat.reduceMul, Nat.reduceLT, reduceIte, Int.reduceToNat, w64_id, cast_succ]); (first | (with_reducible refine GR.drop ?_ ?_; (simp only [go_sem, and_self, and_true, true_and, implies_true, List.take_succ_cons, List.take_zero])) | refine GR.of ?_); refine ⟨?_, rfl⟩; (try with_reducible rfl)
      rw [designB, h]; simp
    · cases h2
end Go.Proofs.YtkifdjjnbplghaaGreat
