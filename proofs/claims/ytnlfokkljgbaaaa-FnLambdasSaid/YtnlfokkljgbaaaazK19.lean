/- Valid designs: the program, the reference. -/
import Derived.Test.YtnlfokkljgbaaaaProg
import Derived.KernelRfl
import Derived.Test.YtnlfokkljgbaaaazU1
import Derived.Test.YtnlfokkljgbaaaazL7
import Derived.Test.YtnlfokkljgbaaaazK7
import Derived.Test.YtnlfokkljgbaaaazK2
set_option linter.unusedSimpArgs false
set_option linter.unusedVariables false
set_option maxHeartbeats 4000000
set_option maxRecDepth 100000
namespace Go.Proofs.Ytnlfokkljgbaaaa
open Go.Av
abbrev f_impl_ValidDesign : Nat := 42
def c_impl_ValidDesign : SC :=
 .seq (.reg [
     ⟨(some 1), .box 26 (.tmp 0), none⟩,
     ⟨(some 2), .mv (.const (.bool false)), none⟩] [1])
 (.seq (.reg [
     ⟨(some 3), .faddr 1 (.tmp 1), none⟩,
     ⟨(some 4), .load 1 false (.tmp 3), none⟩,
     ⟨(some 5), .faddr 0 (.tmp 1), none⟩,
     ⟨(some 6), .load 1 false (.tmp 5), none⟩,
     ⟨(some 7), .call 66 [(.tmp 4), (.tmp 6)], none⟩,
     ⟨(some 8), .mv (.tmp 7), none⟩,
     ⟨(some 9), .faddr 1 (.tmp 1), (some (8, true))⟩,
     ⟨(some 10), .load 1 false (.tmp 9), (some (8, true))⟩,
     ⟨(some 11), .len (.tmp 10), (some (8, true))⟩,
     ⟨(some 12), .bin .leq (.tmp 11) (.const (.int .i64 128)), (some (8, true))⟩,
     ⟨(some 13), .pick (.tmp 8) (.tmp 12) (.const (.bool false)), none⟩,
     ⟨(some 14), .mv (.tmp 13), none⟩,
     ⟨(some 15), .faddr 1 (.tmp 1), (some (14, true))⟩,
     ⟨(some 16), .load 1 false (.tmp 15), (some (14, true))⟩,
     ⟨(some 17), .call 67 [(.tmp 16), (.func 68)], (some (14, true))⟩,
     ⟨(some 18), .pick (.tmp 14) (.tmp 17) (.const (.bool false)), none⟩,
     ⟨(some 2), .mv (.tmp 18), none⟩] [2])
 (.ret))
theorem s_impl_ValidDesign : stripF Try.prog 42 [[1], [2]] = some (c_impl_ValidDesign, [.tmp 2], 19) := by kernel_rfl
abbrev f_impl_areBlocks : Nat := 66
def c_impl_areBlocks : SC :=
 .seq (.reg [
     ⟨(some 3), .box 2 (.tmp 1), none⟩,
     ⟨(some 4), .mv (.const (.bool false)), none⟩] [0, 3])
 (.seq (.reg [
     ⟨(some 5), .load 1 false (.tmp 3), none⟩,
     ⟨(some 6), .call 43 [(.tmp 5), (.const (.int .i64 1)), (.const (.int .i64 32))], none⟩,
     ⟨(some 7), .mv (.tmp 6), none⟩,
     ⟨(some 8), .mv (.tmp 0), (some (7, true))⟩,
     ⟨(some 9), .mkf 89 [(.tmp 3)], (some (7, true))⟩,
     ⟨(some 10), .call 54 [(.tmp 8), (.tmp 9)], (some (7, true))⟩,
     ⟨(some 11), .un .not (.tmp 10), (some (7, true))⟩,
     ⟨(some 12), .pick (.tmp 7) (.tmp 11) (.const (.bool false)), none⟩,
     ⟨(some 4), .mv (.tmp 12), none⟩] [4])
 (.ret))
theorem s_impl_areBlocks : stripF Try.prog 66 [[0, 3], [4]] = some (c_impl_areBlocks, [.tmp 4], 13) := by kernel_rfl
abbrev f_slices_IsSortedFunc_LLint64_Lint64 : Nat := 67
def c_slices_IsSortedFunc_LLint64_Lint64 : SC :=
 .seq (.reg [
     ⟨(some 4), .mv (.const (.bool false)), none⟩] [0, 1])
 (.seq (.seq (.reg [
     ⟨(some 6), .mv (.tmp 0), none⟩,
     ⟨(some 7), .len (.tmp 6), none⟩,
     ⟨(some 8), .bin .sub (.tmp 7) (.const (.int .i64 1)), none⟩,
     ⟨(some 5), .mv (.tmp 8), none⟩] [0, 1, 5])
 (.block 0 (.loop [0, 1, 5]
   (.seq (.seq (.reg [
       ⟨(some 9), .mv (.tmp 5), none⟩,
       ⟨(some 10), .bin .gtr (.tmp 9) (.const (.int .i64 0)), none⟩] [0, 1, 5, 10])
   (.cond (.tmp 10)
    (.skip)
    (.exit 0)))
   (.seq (.block 1 (.seq (.reg [
        ⟨(some 13), .mv (.tmp 1), none⟩,
        ⟨(some 14), .mv (.tmp 0), none⟩,
        ⟨(some 15), .mv (.tmp 5), none⟩,
        ⟨(some 16), .iaddr 1 (.tmp 14) (.tmp 15), none⟩,
        ⟨(some 17), .load 1 false (.tmp 16), none⟩,
        ⟨(some 18), .mv (.tmp 0), none⟩,
        ⟨(some 19), .mv (.tmp 5), none⟩,
        ⟨(some 20), .bin .sub (.tmp 19) (.const (.int .i64 1)), none⟩,
        ⟨(some 21), .iaddr 1 (.tmp 18) (.tmp 20), none⟩,
        ⟨(some 22), .load 1 false (.tmp 21), none⟩,
        ⟨(some 23), .qcallv (.tmp 13) [(.tmp 17), (.tmp 22)], none⟩,
        ⟨(some 24), .bin .lss (.tmp 23) (.const (.int .i64 0)), none⟩] [0, 1, 5, 24])
    (.cond (.tmp 24)
     (.seq (.reg [
         ⟨(some 4), .mv (.const (.bool false)), none⟩] [4])
     (.ret))
     (.skip))))
   (.reg [
       ⟨(some 11), .mv (.tmp 5), none⟩,
       ⟨(some 12), .bin .sub (.tmp 11) (.const (.int .i64 1)), none⟩,
       ⟨(some 5), .mv (.tmp 12), none⟩] [0, 1, 5]))))))
 (.seq (.reg [
     ⟨(some 4), .mv (.const (.bool true)), none⟩] [4])
 (.ret)))
theorem s_slices_IsSortedFunc_LLint64_Lint64 : stripF Try.prog 67 [[0, 1], [0, 1, 5], [0, 1, 5], [0, 1, 5, 10], [0, 1, 5, 24], [4], [0, 1, 5], [4]] = some (c_slices_IsSortedFunc_LLint64_Lint64, [.tmp 4], 25) := by kernel_rfl
abbrev f_impl_areBlocks_c1 : Nat := 89
def c_impl_areBlocks_c1 : SC :=
 .seq (.reg [
     ⟨(some 3), .mv (.const (.bool false)), none⟩] [0, 1])
 (.seq (.reg [
     ⟨(some 4), .mv (.tmp 0), none⟩,
     ⟨(some 5), .load 1 false (.tmp 1), none⟩,
     ⟨(some 6), .call 90 [(.tmp 4), (.tmp 5)], none⟩,
     ⟨(some 7), .un .not (.tmp 6), none⟩,
     ⟨(some 3), .mv (.tmp 7), none⟩] [3])
 (.ret))
theorem s_impl_areBlocks_c1 : stripF Try.prog 89 [[0, 1], [3]] = some (c_impl_areBlocks_c1, [.tmp 3], 8) := by kernel_rfl
theorem get_appU {H : List Blk} {p : Nat} {b : Blk} (h : H[p]? = some b) (ext : List Blk) : (H ++ ext)[p]? = some b := by
  rw [List.getElem?_append_left (List.getElem?_eq_some_iff.1 h).1]; exact h
def adjB {α : Type} (r : α → α → Bool) : List α → Bool
  | x :: y :: l => r x y && adjB r (y :: l)
  | _ => true
theorem adjB_snoc {α : Type} (r : α → α → Bool) (l : List α) (y x : α) : adjB r (l ++ [y] ++ [x]) = (adjB r (l ++ [y]) && r y x) := by
  induction l with
  | nil => simp [adjB]
  | cons a l ih =>
    cases l with
    | nil => simp [adjB]
    | cons b l =>
      simp only [List.cons_append, adjB] at ih ⊢
      rw [ih, Bool.and_assoc]
theorem adjB_pre {α : Type} (r : α → α → Bool) (l m : List α) (h : adjB r (l ++ m) = true) : adjB r l = true := by
  induction l with
  | nil => rfl
  | cons a l ih =>
    cases l with
    | nil => rfl
    | cons b l =>
      simp only [List.cons_append, adjB, Bool.and_eq_true] at ih h ⊢
      exact ⟨h.1, ih h.2⟩
theorem nilOrSnoc {α : Type} (xs : List α) : xs = [] ∨ ∃ r b, xs = r ++ [b] := by
  rcases List.eq_nil_or_concat xs with h | ⟨r, b, h⟩
  · exact .inl h
  · exact .inr ⟨r, b, by simpa using h⟩
theorem lastOf {α : Type} {xs pre post : List α} {d : α} (h : xs = pre ++ post) (h0 : 0 < pre.length) : ∃ r b, pre = r ++ [b] ∧ xs.getD (pre.length - 1) d = b := by
  rcases nilOrSnoc pre with rfl | ⟨r, b, rfl⟩
  · simp at h0
  · refine ⟨r, b, by simp, ?_⟩
    subst h; simp
theorem cmpL_neg : ∀ (xs ys : List Int), cmpL ys xs = - cmpL xs ys
  | [], [] => rfl
  | [], y :: ys => rfl
  | x :: xs, [] => rfl
  | x :: xs, y :: ys => by
    simp only [cmpL]
    by_cases h1 : x < y
    · have h2 : ¬ y < x := by omega
      simp [h1, h2]
    · by_cases h2 : y < x
      · simp [h1, h2]
      · simp only [h1, h2, if_false]; exact cmpL_neg xs ys
theorem isSorted_ok {α : Type} (enc : α → AV) (H : List Blk) (a : AV) (xs : List α) (ha : aview H a = some (xs.length, xs.map enc))
    (g : Nat) (cs : List AV) (hg : callable Try.prog g = true) (c : α → α → Int) (hc : ∀ x ∈ xs, ∀ y ∈ xs, PFn Try.prog g (enc x :: enc y :: cs) (I (c x y))) :
    ACalls Try.prog f_slices_IsSortedFunc_LLint64_Lint64 [a, .fn g cs] H (fun r H' => r = Bv (adjB (fun x y => !decide (c y x < 0)) xs) ∧ H' = H) := by
  rcases nilOrSnoc xs with rfl | ⟨pre0, x0, rfl⟩
  · refine ACalls.introB s_slices_IsSortedFunc_LLint64_Lint64 (by simp) ?_; intro hB hA; unfold c_slices_IsSortedFunc_LLint64_Lint64; simp (config := { maxSteps := 1000000 }) (disch := (first | omega | (simp only [go_sem]; try omega))) only [go_sem, Nat.reduceAdd, Nat.reduceEqDiff, Nat.reduceLeDiff, Nat.reduceMul, Nat.reduceLT, reduceIte, Int.reduceToNat, w64_id, cast_succ]
    repeat (first | (with_reducible first | refine SW.seq ?_ | refine SW.block ?_ | refine SW.rowC ?_ | refine SW.skip ?_ | refine SW.exit ?_ | intro _ | refine And.intro (by omega) ?_) | simp (config := { maxSteps := 1000000 }) (disch := (first | omega | (simp only [go_sem]; try omega))) only [go_sem, Nat.reduceAdd, Nat.reduceEqDiff, Nat.reduceLeDiff, Nat.reduceMul, Nat.reduceLT, reduceIte, Int.reduceToNat, w64_id, cast_succ, ha])
    refine SW.loopE (fun E0 H0 q E' H' => E' = E0 ∧ H' = H0) 0 ⟨rfl, rfl⟩ ?_
    rintro q E' H' ⟨rfl, rfl⟩
    simp (config := { maxSteps := 1000000 }) (disch := (first | omega | (simp only [go_sem]; try omega))) only [go_sem, Nat.reduceAdd, Nat.reduceEqDiff, Nat.reduceLeDiff, Nat.reduceMul, Nat.reduceLT, reduceIte, Int.reduceToNat, w64_id, cast_succ]
    repeat (first | (with_reducible first | refine SW.seq ?_ | refine SW.block ?_ | refine SW.rowC ?_ | refine SW.skip ?_ | refine SW.exit ?_ | intro _ | refine And.intro (by omega) ?_) | simp (config := { maxSteps := 1000000 }) (disch := (first | omega | (simp only [go_sem]; try omega))) only [go_sem, Nat.reduceAdd, Nat.reduceEqDiff, Nat.reduceLeDiff, Nat.reduceMul, Nat.reduceLT, reduceIte, Int.reduceToNat, w64_id, cast_succ])
    refine SW.condF rfl ?_
    repeat (first | (with_reducible first | refine SW.seq ?_ | refine SW.block ?_ | refine SW.rowC ?_ | refine SW.skip ?_ | refine SW.exit ?_ | intro _ | refine And.intro (by omega) ?_) | simp (config := { maxSteps := 1000000 }) (disch := (first | omega | (simp only [go_sem]; try omega))) only [go_sem, Nat.reduceAdd, Nat.reduceEqDiff, Nat.reduceLeDiff, Nat.reduceMul, Nat.reduceLT, reduceIte, Int.reduceToNat, w64_id, cast_succ])
    refine SW.ret ?_; (try simp only [go_sem]); (first | refine FunPost.one ?_ | refine FunPost.two ?_ | refine FunPost.three ?_); (try simp (config := { maxSteps := 1000000 }) (disch := (first | omega | (simp only [go_sem]; try omega))) only [go_sem, Nat.reduceAdd, Nat.reduceEqDiff, Nat.reduceLeDiff, Nat.reduceMul, Nat.reduceLT, reduceIte, Int.reduceToNat, w64_id, cast_succ]); (first | (with_reducible refine GR.drop ?_ ?_; (simp only [go_sem, and_self, and_true, true_and, implies_true, List.take_succ_cons, List.take_zero])) | refine GR.of ?_); refine ⟨?_, rfl⟩; (try with_reducible rfl)
    rfl
  · refine ACalls.introB s_slices_IsSortedFunc_LLint64_Lint64 (by simp) ?_; intro hB hA; unfold c_slices_IsSortedFunc_LLint64_Lint64; simp (config := { maxSteps := 1000000 }) (disch := (first | omega | (simp only [go_sem]; try omega))) only [go_sem, Nat.reduceAdd, Nat.reduceEqDiff, Nat.reduceLeDiff, Nat.reduceMul, Nat.reduceLT, reduceIte, Int.reduceToNat, w64_id, cast_succ]
    repeat (first | (with_reducible first | refine SW.seq ?_ | refine SW.block ?_ | refine SW.rowC ?_ | refine SW.skip ?_ | refine SW.exit ?_ | intro _ | refine And.intro (by omega) ?_) | simp (config := { maxSteps := 1000000 }) (disch := (first | omega | (simp only [go_sem]; try omega))) only [go_sem, Nat.reduceAdd, Nat.reduceEqDiff, Nat.reduceLeDiff, Nat.reduceMul, Nat.reduceLT, reduceIte, Int.reduceToNat, w64_id, cast_succ, ha])
    refine SW.loopE (fun E0 H0 q E' H' => ∃ (pre post : List α) (x : α), pre0 ++ [x0] = pre ++ x :: post ∧ q = pre.length ∧ E' = aput E0 5 (I pre.length) ∧ H' = H0 ∧ adjB (fun x y => !decide (c y x < 0)) (x :: post) = true) pre0.length ⟨pre0, [], x0, rfl, rfl, by simp [go_sem], rfl, rfl⟩ ?_
    rintro q E' H' ⟨pre, post, x, hp, rfl, rfl, rfl, hs⟩
    simp (config := { maxSteps := 1000000 }) (disch := (first | omega | (simp only [go_sem]; try omega))) only [go_sem, Nat.reduceAdd, Nat.reduceEqDiff, Nat.reduceLeDiff, Nat.reduceMul, Nat.reduceLT, reduceIte, Int.reduceToNat, w64_id, cast_succ]
    repeat (first | (with_reducible first | refine SW.seq ?_ | refine SW.block ?_ | refine SW.rowC ?_ | refine SW.skip ?_ | refine SW.exit ?_ | intro _ | refine And.intro (by omega) ?_) | simp (config := { maxSteps := 1000000 }) (disch := (first | omega | (simp only [go_sem]; try omega))) only [go_sem, Nat.reduceAdd, Nat.reduceEqDiff, Nat.reduceLeDiff, Nat.reduceMul, Nat.reduceLT, reduceIte, Int.reduceToNat, w64_id, cast_succ])
    (first | refine SW.condD rfl (fun h => ?_) (fun h => ?_) | refine SW.condN rfl (fun h => ?_) (fun h => ?_) | refine SW.condNB rfl (fun h => ?_) (fun h => ?_) | refine SW.condB rfl (fun h => ?_) (fun h => ?_))
    · obtain ⟨r, y, rfl, -⟩ := lastOf (d := x) hp (by omega)
      rw [hp] at ha
      have g1 : ((r ++ [y] ++ x :: post).map enc)[(r ++ [y]).length]? = some (enc x) := by simp
      have g2 : ((r ++ [y] ++ x :: post).map enc)[r.length]? = some (enc y) := by simp
      have hl2 : (((r ++ [y]).length : Nat) : Int) - 1 = (r.length : Int) := by simp
      have hl : (r ++ [y]).length = r.length + 1 := by simp
      have hl3 : (r ++ [y] ++ x :: post).length = r.length + 2 + post.length := by simp; omega
      generalize hL : r ++ [y] ++ x :: post = L at *
      generalize hM : (r ++ [y]).length = M at *
      have hcc := hc x (by rw [hp, ← hL]; simp) y (by rw [hp, ← hL]; simp)
      have hb : L.length = pre0.length + 1 := by rw [← hp]; simp
      repeat (first | (with_reducible first | refine SW.seq ?_ | refine SW.block ?_ | refine SW.rowC ?_ | refine SW.skip ?_ | refine SW.exit ?_ | intro _ | refine And.intro (by omega) ?_) | simp (config := { maxSteps := 1000000 }) (disch := (first | omega | (simp only [go_sem]; try omega))) only [go_sem, Nat.reduceAdd, Nat.reduceEqDiff, Nat.reduceLeDiff, Nat.reduceMul, Nat.reduceLT, reduceIte, Int.reduceToNat, w64_id, cast_succ, ha, g1, g2, hl2, hg])
      refine PFn.useq hcc ?_
      repeat (first | (with_reducible first | refine SW.seq ?_ | refine SW.block ?_ | refine SW.rowC ?_ | refine SW.skip ?_ | refine SW.exit ?_ | intro _ | refine And.intro (by omega) ?_) | simp (config := { maxSteps := 1000000 }) (disch := (first | omega | (simp only [go_sem]; try omega))) only [go_sem, Nat.reduceAdd, Nat.reduceEqDiff, Nat.reduceLeDiff, Nat.reduceMul, Nat.reduceLT, reduceIte, Int.reduceToNat, w64_id, cast_succ])
      (first | refine SW.condD rfl (fun h2 => ?_) (fun h2 => ?_) | refine SW.condN rfl (fun h2 => ?_) (fun h2 => ?_) | refine SW.condNB rfl (fun h2 => ?_) (fun h2 => ?_) | refine SW.condB rfl (fun h2 => ?_) (fun h2 => ?_))
      · repeat (first | (with_reducible first | refine SW.seq ?_ | refine SW.block ?_ | refine SW.rowC ?_ | refine SW.skip ?_ | refine SW.exit ?_ | intro _ | refine And.intro (by omega) ?_) | simp (config := { maxSteps := 1000000 }) (disch := (first | omega | (simp only [go_sem]; try omega))) only [go_sem, Nat.reduceAdd, Nat.reduceEqDiff, Nat.reduceLeDiff, Nat.reduceMul, Nat.reduceLT, reduceIte, Int.reduceToNat, w64_id, cast_succ])
        refine SW.ret ?_; (try simp only [go_sem]); (first | refine FunPost.one ?_ | refine FunPost.two ?_ | refine FunPost.three ?_); (try simp (config := { maxSteps := 1000000 }) (disch := (first | omega | (simp only [go_sem]; try omega))) only [go_sem, Nat.reduceAdd, Nat.reduceEqDiff, Nat.reduceLeDiff, Nat.reduceMul, Nat.reduceLT, reduceIte, Int.reduceToNat, w64_id, cast_succ]); (first | (with_reducible refine GR.drop ?_ ?_; (simp only [go_sem, and_self, and_true, true_and, implies_true, List.take_succ_cons, List.take_zero])) | refine GR.of ?_); refine ⟨?_, rfl⟩; (try with_reducible rfl)
        symm
        refine congrArg Bv ?_
        rw [hp, ← hL, Bool.eq_false_iff]
        intro h3
        have h4 := adjB_pre _ (r ++ [y] ++ [x]) post (by simpa using h3)
        rw [adjB_snoc] at h4
        simp [h2] at h4
      · repeat (first | (with_reducible first | refine SW.seq ?_ | refine SW.block ?_ | refine SW.rowC ?_ | refine SW.skip ?_ | refine SW.exit ?_ | intro _ | refine And.intro (by omega) ?_) | simp (config := { maxSteps := 1000000 }) (disch := (first | omega | (simp only [go_sem]; try omega))) only [go_sem, Nat.reduceAdd, Nat.reduceEqDiff, Nat.reduceLeDiff, Nat.reduceMul, Nat.reduceLT, reduceIte, Int.reduceToNat, w64_id, cast_succ])
        refine SLoop.next r.length (by omega) ⟨r, x :: post, y, by rw [hp, ← hL]; simp, rfl, ?_, rfl, ?_⟩
        · simp [go_sem, hl2]
        · simp [adjB, hs]; omega
    · have : pre = [] := by
        cases pre with
        | nil => rfl
        | cons y pre => exfalso; simp at h
      subst this
      rw [List.nil_append] at hp
      repeat (first | (with_reducible first | refine SW.seq ?_ | refine SW.block ?_ | refine SW.rowC ?_ | refine SW.skip ?_ | refine SW.exit ?_ | intro _ | refine And.intro (by omega) ?_) | simp (config := { maxSteps := 1000000 }) (disch := (first | omega | (simp only [go_sem]; try omega))) only [go_sem, Nat.reduceAdd, Nat.reduceEqDiff, Nat.reduceLeDiff, Nat.reduceMul, Nat.reduceLT, reduceIte, Int.reduceToNat, w64_id, cast_succ])
      refine SW.ret ?_; (try simp only [go_sem]); (first | refine FunPost.one ?_ | refine FunPost.two ?_ | refine FunPost.three ?_); (try simp (config := { maxSteps := 1000000 }) (disch := (first | omega | (simp only [go_sem]; try omega))) only [go_sem, Nat.reduceAdd, Nat.reduceEqDiff, Nat.reduceLeDiff, Nat.reduceMul, Nat.reduceLT, reduceIte, Int.reduceToNat, w64_id, cast_succ]); (first | (with_reducible refine GR.drop ?_ ?_; (simp only [go_sem, and_self, and_true, true_and, implies_true, List.take_succ_cons, List.take_zero])) | refine GR.of ?_); refine ⟨?_, rfl⟩; (try with_reducible rfl)
      rw [hp, hs]
theorem slicesCompare_call : callable Try.prog f_slices_Compare_Lint64_int64 = true := by kernel_rfl
def blkB (v : Int) (b : List Int) : Bool := !b.isEmpty && asc 0 (v - 1) b
def designB (v : Int) (xss : List (List Int)) : Bool := decide (1 ≤ v) && decide (v ≤ 32) && xss.all (blkB v) && decide (xss.length ≤ 128) && adjB (fun x y => !decide (cmpL y x < 0)) xss
theorem areBlocks_c1_ok (H : List Blk) (p ty : Nat) (v : Int) (xs : List Int) (h0 : 1 ≤ v) (h1 : v ≤ 32) (hp : H[p]? = some ⟨0, ty, 1, [I v]⟩) : ACalls Try.prog f_impl_areBlocks_c1 [ilS xs, .pc p 0 0] H (fun r H' => r = Bv (!blkB v xs) ∧ H' = H) := by
  refine ACalls.introB s_impl_areBlocks_c1 (by simp) ?_; intro hB hA; unfold c_impl_areBlocks_c1; simp (config := { maxSteps := 1000000 }) (disch := (first | omega | (simp only [go_sem]; try omega))) only [go_sem, Nat.reduceAdd, Nat.reduceEqDiff, Nat.reduceLeDiff, Nat.reduceMul, Nat.reduceLT, reduceIte, Int.reduceToNat, w64_id, cast_succ]
  repeat (first | (with_reducible first | refine SW.seq ?_ | refine SW.block ?_ | refine SW.rowC ?_ | refine SW.skip ?_ | refine SW.exit ?_ | refine PFn.use (isBlock_fn xs v h0 h1) ?_ | refine PFn.useq (isBlock_fn xs v h0 h1) ?_ | intro _ | refine And.intro (by omega) ?_) | simp (config := { maxSteps := 1000000 }) (disch := (first | omega | (simp only [go_sem]; try omega))) only [go_sem, Nat.reduceAdd, Nat.reduceEqDiff, Nat.reduceLeDiff, Nat.reduceMul, Nat.reduceLT, reduceIte, Int.reduceToNat, w64_id, cast_succ, pc_ld hp, pc_alive hp])
  refine SW.ret ?_; (try simp only [go_sem]); (first | refine FunPost.one ?_ | refine FunPost.two ?_ | refine FunPost.three ?_); (try simp (config := { maxSteps := 1000000 }) (disch := (first | omega | (simp only [go_sem]; try omega))) only [go_sem, Nat.reduceAdd, Nat.reduceEqDiff, Nat.reduceLeDiff, Nat.reduceMul, Nat.reduceLT, reduceIte, Int.reduceToNat, w64_id, cast_succ]); (first | (with_reducible refine GR.drop ?_ ?_; (simp only [go_sem, and_self, and_true, true_and, implies_true, List.take_succ_cons, List.take_zero])) | refine GR.of ?_); refine ⟨?_, rfl⟩; (try with_reducible rfl)
  rfl
theorem areBlocks_fn (v : Int) (xss : List (List Int)) : PFn Try.prog f_impl_areBlocks [ilSS xss, I v] (Bv (decide (1 ≤ v) && decide (v ≤ 32) && xss.all (blkB v))) := by
  intro H; refine ACalls.introB s_impl_areBlocks (by simp) ?_; intro hB hA; unfold c_impl_areBlocks; simp (config := { maxSteps := 1000000 }) (disch := (first | omega | (simp only [go_sem]; try omega))) only [go_sem, Nat.reduceAdd, Nat.reduceEqDiff, Nat.reduceLeDiff, Nat.reduceMul, Nat.reduceLT, reduceIte, Int.reduceToNat, w64_id, cast_succ]
  repeat (first | (with_reducible first | refine SW.seq ?_ | refine SW.block ?_ | refine SW.rowC ?_ | refine SW.skip ?_ | refine SW.exit ?_ | refine PFn.use (within_fn _ _ _) ?_ | refine PFn.useq (within_fn _ _ _) ?_ | intro _ | refine And.intro (by omega) ?_) | simp (config := { maxSteps := 1000000 }) (disch := (first | omega | (simp only [go_sem]; try omega))) only [go_sem, Nat.reduceAdd, Nat.reduceEqDiff, Nat.reduceLeDiff, Nat.reduceMul, Nat.reduceLT, reduceIte, Int.reduceToNat, w64_id, cast_succ])
  (first | refine GSplit.df (fun h => ?_) (fun h => ?_) | refine GSplit.dt (fun h => ?_) (fun h => ?_) | refine GSplit.ndf (fun h => ?_) (fun h => ?_) | refine GSplit.ndt (fun h => ?_) (fun h => ?_) | refine GSplit.nbf (fun h => ?_) (fun h => ?_) | refine GSplit.nbt (fun h => ?_) (fun h => ?_) | refine GSplit.bf (fun h => ?_) (fun h => ?_) | refine GSplit.bt (fun h => ?_) (fun h => ?_))
  · simp only [Bool.and_eq_true, decide_eq_true_eq] at h
    repeat (first | (with_reducible first | refine SW.seq ?_ | refine SW.block ?_ | refine SW.rowC ?_ | refine SW.skip ?_ | refine SW.exit ?_ | intro _ | refine And.intro (by omega) ?_) | simp (config := { maxSteps := 1000000 }) (disch := (first | omega | (simp only [go_sem]; try omega))) only [go_sem, Nat.reduceAdd, Nat.reduceEqDiff, Nat.reduceLeDiff, Nat.reduceMul, Nat.reduceLT, reduceIte, Int.reduceToNat, w64_id, cast_succ])
    refine (conSS_ok ilS _ _ xss rfl _ _ (by kernel_rfl) (fun xs => !blkB v xs) (fun xs hxs => areBlocks_c1_ok _ H.length 2 v xs h.1 h.2 (by simp))).mono ?_
    rintro r H' ⟨rfl, rfl⟩
    repeat (first | (with_reducible first | refine SW.seq ?_ | refine SW.block ?_ | refine SW.rowC ?_ | refine SW.skip ?_ | refine SW.exit ?_ | intro _ | refine And.intro (by omega) ?_) | simp (config := { maxSteps := 1000000 }) (disch := (first | omega | (simp only [go_sem]; try omega))) only [go_sem, Nat.reduceAdd, Nat.reduceEqDiff, Nat.reduceLeDiff, Nat.reduceMul, Nat.reduceLT, reduceIte, Int.reduceToNat, w64_id, cast_succ])
    refine SW.ret ?_; (try simp only [go_sem]); (first | refine FunPost.one ?_ | refine FunPost.two ?_ | refine FunPost.three ?_); (try simp (config := { maxSteps := 1000000 }) (disch := (first | omega | (simp only [go_sem]; try omega))) only [go_sem, Nat.reduceAdd, Nat.reduceEqDiff, Nat.reduceLeDiff, Nat.reduceMul, Nat.reduceLT, reduceIte, Int.reduceToNat, w64_id, cast_succ]); (first | (with_reducible refine GR.drop ?_ ?_; (simp only [go_sem, and_self, and_true, true_and, implies_true, List.take_succ_cons, List.take_zero])) | refine GR.of ?_); refine ⟨?_, rfl⟩; (try with_reducible rfl)
    simp [h, List.any_eq_not_all_not]
  · repeat (first | (with_reducible first | refine SW.seq ?_ | refine SW.block ?_ | refine SW.rowC ?_ | refine SW.skip ?_ | refine SW.exit ?_ | intro _ | refine And.intro (by omega) ?_) | simp (config := { maxSteps := 1000000 }) (disch := (first | omega | (simp only [go_sem]; try omega))) only [go_sem, Nat.reduceAdd, Nat.reduceEqDiff, Nat.reduceLeDiff, Nat.reduceMul, Nat.reduceLT, reduceIte, Int.reduceToNat, w64_id, cast_succ])
    refine SW.ret ?_; (try simp only [go_sem]); (first | refine FunPost.one ?_ | refine FunPost.two ?_ | refine FunPost.three ?_); (try simp (config := { maxSteps := 1000000 }) (disch := (first | omega | (simp only [go_sem]; try omega))) only [go_sem, Nat.reduceAdd, Nat.reduceEqDiff, Nat.reduceLeDiff, Nat.reduceMul, Nat.reduceLT, reduceIte, Int.reduceToNat, w64_id, cast_succ]); (first | (with_reducible refine GR.drop ?_ ?_; (simp only [go_sem, and_self, and_true, true_and, implies_true, List.take_succ_cons, List.take_zero])) | refine GR.of ?_); refine ⟨?_, rfl⟩; (try with_reducible rfl)
    rw [h]; rfl
theorem ValidDesign_fn (v : Int) (xss : List (List Int)) : PFn Try.prog f_impl_ValidDesign [.agg [I v, ilSS xss]] (Bv (designB v xss)) := by
  intro H; refine ACalls.introB s_impl_ValidDesign (by simp) ?_; intro hB hA; unfold c_impl_ValidDesign; simp (config := { maxSteps := 1000000 }) (disch := (first | omega | (simp only [go_sem]; try omega))) only [go_sem, Nat.reduceAdd, Nat.reduceEqDiff, Nat.reduceLeDiff, Nat.reduceMul, Nat.reduceLT, reduceIte, Int.reduceToNat, w64_id, cast_succ]
  repeat (first | (with_reducible first | refine SW.seq ?_ | refine SW.block ?_ | refine SW.rowC ?_ | refine SW.skip ?_ | refine SW.exit ?_ | refine PFn.use (areBlocks_fn v xss) ?_ | refine PFn.useq (areBlocks_fn v xss) ?_ | intro _ | refine And.intro (by omega) ?_) | simp (config := { maxSteps := 1000000 }) (disch := (first | omega | (simp only [go_sem]; try omega))) only [go_sem, Nat.reduceAdd, Nat.reduceEqDiff, Nat.reduceLeDiff, Nat.reduceMul, Nat.reduceLT, reduceIte, Int.reduceToNat, w64_id, cast_succ])
  (first | refine GSplit.df (fun h => ?_) (fun h => ?_) | refine GSplit.dt (fun h => ?_) (fun h => ?_) | refine GSplit.ndf (fun h => ?_) (fun h => ?_) | refine GSplit.ndt (fun h => ?_) (fun h => ?_) | refine GSplit.nbf (fun h => ?_) (fun h => ?_) | refine GSplit.nbt (fun h => ?_) (fun h => ?_) | refine GSplit.bf (fun h => ?_) (fun h => ?_) | refine GSplit.bt (fun h => ?_) (fun h => ?_))
  · repeat (first | (with_reducible first | refine SW.seq ?_ | refine SW.block ?_ | refine SW.rowC ?_ | refine SW.skip ?_ | refine SW.exit ?_ | intro _ | refine And.intro (by omega) ?_) | simp (config := { maxSteps := 1000000 }) (disch := (first | omega | (simp only [go_sem]; try omega))) only [go_sem, Nat.reduceAdd, Nat.reduceEqDiff, Nat.reduceLeDiff, Nat.reduceMul, Nat.reduceLT, reduceIte, Int.reduceToNat, w64_id, cast_succ])
    (first | refine GSplit.df (fun h2 => ?_) (fun h2 => ?_) | refine GSplit.dt (fun h2 => ?_) (fun h2 => ?_) | refine GSplit.ndf (fun h2 => ?_) (fun h2 => ?_) | refine GSplit.ndt (fun h2 => ?_) (fun h2 => ?_) | refine GSplit.nbf (fun h2 => ?_) (fun h2 => ?_) | refine GSplit.nbt (fun h2 => ?_) (fun h2 => ?_) | refine GSplit.bf (fun h2 => ?_) (fun h2 => ?_) | refine GSplit.bt (fun h2 => ?_) (fun h2 => ?_))
    · repeat (first | (with_reducible first | refine SW.seq ?_ | refine SW.block ?_ | refine SW.rowC ?_ | refine SW.skip ?_ | refine SW.exit ?_ | intro _ | refine And.intro (by omega) ?_) | simp (config := { maxSteps := 1000000 }) (disch := (first | omega | (simp only [go_sem]; try omega))) only [go_sem, Nat.reduceAdd, Nat.reduceEqDiff, Nat.reduceLeDiff, Nat.reduceMul, Nat.reduceLT, reduceIte, Int.reduceToNat, w64_id, cast_succ])
      refine (isSorted_ok ilS _ _ xss rfl _ _ slicesCompare_call cmpL (fun x _ y _ => slicesCompare_fn x y)).mono ?_
      rintro r H' ⟨rfl, rfl⟩
      repeat (first | (with_reducible first | refine SW.seq ?_ | refine SW.block ?_ | refine SW.rowC ?_ | refine SW.skip ?_ | refine SW.exit ?_ | intro _ | refine And.intro (by omega) ?_) | simp (config := { maxSteps := 1000000 }) (disch := (first | omega | (simp only [go_sem]; try omega))) only [go_sem, Nat.reduceAdd, Nat.reduceEqDiff, Nat.reduceLeDiff, Nat.reduceMul, Nat.reduceLT, reduceIte, Int.reduceToNat, w64_id, cast_succ])
      refine SW.ret ?_; (try simp only [go_sem]); (first | refine FunPost.one ?_ | refine FunPost.two ?_ | refine FunPost.three ?_); (try simp (config := { maxSteps := 1000000 }) (disch := (first | omega | (simp only [go_sem]; try omega))) only [go_sem, Nat.reduceAdd, Nat.reduceEqDiff, Nat.reduceLeDiff, Nat.reduceMul, Nat.reduceLT, reduceIte, Int.reduceToNat, w64_id, cast_succ]); (first | (with_reducible refine GR.drop ?_ ?_; (simp only [go_sem, and_self, and_true, true_and, implies_true, List.take_succ_cons, List.take_zero])) | refine GR.of ?_); refine ⟨?_, rfl⟩; (try with_reducible rfl)
      rw [designB, h, decide_eq_true (show xss.length ≤ 128 by omega)]; simp
    · repeat (first | (with_reducible first | refine SW.seq ?_ | refine SW.block ?_ | refine SW.rowC ?_ | refine SW.skip ?_ | refine SW.exit ?_ | intro _ | refine And.intro (by omega) ?_) | simp (config := { maxSteps := 1000000 }) (disch := (first | omega | (simp only [go_sem]; try omega))) only [go_sem, Nat.reduceAdd, Nat.reduceEqDiff, Nat.reduceLeDiff, Nat.reduceMul, Nat.reduceLT, reduceIte, Int.reduceToNat, w64_id, cast_succ])
      refine SW.ret ?_; (try simp only [go_sem]); (first | refine FunPost.one ?_ | refine FunPost.two ?_ | refine FunPost.three ?_); (try simp (config := { maxSteps := 1000000 }) (disch := (first | omega | (simp only [go_sem]; try omega))) only [go_sem, Nat.reduceAdd, Nat.reduceEqDiff, Nat.reduceLeDiff, Nat.reduceMul, Nat.reduceLT, reduceIte, Int.reduceToNat, w64_id, cast_succ]); (first | (with_reducible refine GR.drop ?_ ?_; (simp only [go_sem, and_self, and_true, true_and, implies_true, List.take_succ_cons, List.take_zero])) | refine GR.of ?_); refine ⟨?_, rfl⟩; (try with_reducible rfl)
      rw [designB, h, decide_eq_false (show ¬ xss.length ≤ 128 by omega)]; simp
  · repeat (first | (with_reducible first | refine SW.seq ?_ | refine SW.block ?_ | refine SW.rowC ?_ | refine SW.skip ?_ | refine SW.exit ?_ | intro _ | refine And.intro (by omega) ?_) | simp (config := { maxSteps := 1000000 }) (disch := (first | omega | (simp only [go_sem]; try omega))) only [go_sem, Nat.reduceAdd, Nat.reduceEqDiff, Nat.reduceLeDiff, Nat.reduceMul, Nat.reduceLT, reduceIte, Int.reduceToNat, w64_id, cast_succ])
    refine SW.ret ?_; (try simp only [go_sem]); (first | refine FunPost.one ?_ | refine FunPost.two ?_ | refine FunPost.three ?_); (try simp (config := { maxSteps := 1000000 }) (disch := (first | omega | (simp only [go_sem]; try omega))) only [go_sem, Nat.reduceAdd, Nat.reduceEqDiff, Nat.reduceLeDiff, Nat.reduceMul, Nat.reduceLT, reduceIte, Int.reduceToNat, w64_id, cast_succ]); (first | (with_reducible refine GR.drop ?_ ?_; (simp only [go_sem, and_self, and_true, true_and, implies_true, List.take_succ_cons, List.take_zero])) | refine GR.of ?_); refine ⟨?_, rfl⟩; (try with_reducible rfl)
    rw [designB, h]; simp
end Go.Proofs.Ytnlfokkljgbaaaa
