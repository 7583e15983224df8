/- Exact covers: what is covered; IsCover; OptionsWith. -/
import Derived.Test.YtnlfokkljgbaaaaProg
import Derived.KernelRfl
import Derived.Test.YtnlfokkljgbaaaazK6
set_option linter.unusedSimpArgs false
set_option linter.unusedVariables false
set_option maxHeartbeats 4000000
set_option maxRecDepth 100000
namespace Go.Proofs.Ytnlfokkljgbaaaa
open Go.Av
abbrev f_impl_IsCover : Nat := 15
def c_impl_IsCover : SC :=
 .seq (.reg [
     ⟨(some 2), .box 34 (.tmp 0), none⟩,
     ⟨(some 4), .mv (.const (.bool false)), none⟩] [1, 2])
 (.seq (.seq (.reg [
     ⟨(some 7), .load 2 true (.tmp 2), none⟩,
     ⟨(some 8), .call 29 [(.tmp 7)], none⟩,
     ⟨(some 9), .un .not (.tmp 8), none⟩,
     ⟨(some 10), .mv (.tmp 9), none⟩,
     ⟨(some 11), .mv (.tmp 1), (some (10, false))⟩,
     ⟨(some 12), .faddr 1 (.tmp 2), (some (10, false))⟩,
     ⟨(some 13), .load 1 false (.tmp 12), (some (10, false))⟩,
     ⟨(some 14), .call 28 [(.tmp 13)], (some (10, false))⟩,
     ⟨(some 15), .call 30 [(.tmp 11), (.tmp 14)], (some (10, false))⟩,
     ⟨(some 16), .un .not (.tmp 15), (some (10, false))⟩,
     ⟨(some 17), .pick (.tmp 10) (.const (.bool true)) (.tmp 16), none⟩] [1, 2, 17])
 (.cond (.tmp 17)
  (.seq (.reg [
      ⟨(some 4), .mv (.const (.bool false)), none⟩] [4])
  (.ret))
  (.skip)))
 (.seq (.reg [
     ⟨(some 19), .load 2 true (.tmp 2), none⟩,
     ⟨(some 20), .mv (.tmp 1), none⟩,
     ⟨(some 21), .call 31 [(.tmp 19), (.tmp 20)], none⟩,
     ⟨(some 18), .mv (.tmp 21), none⟩,
     ⟨(some 22), .ext (.tmp 18) 0, none⟩,
     ⟨(some 23), .ext (.tmp 18) 1, none⟩,
     ⟨(some 5), .mv (.tmp 22), none⟩,
     ⟨(some 6), .mv (.tmp 23), none⟩] [5, 6])
 (.seq (.reg [
     ⟨(some 24), .mv (.tmp 6), none⟩,
     ⟨(some 25), .mv (.tmp 24), none⟩,
     ⟨(some 26), .mv (.tmp 5), (some (25, true))⟩,
     ⟨(some 27), .call 32 [(.tmp 26), (.const (.bool false))], (some (25, true))⟩,
     ⟨(some 28), .un .not (.tmp 27), (some (25, true))⟩,
     ⟨(some 29), .pick (.tmp 25) (.tmp 28) (.const (.bool false)), none⟩,
     ⟨(some 4), .mv (.tmp 29), none⟩] [4])
 (.ret))))
theorem s_impl_IsCover : stripF Try.prog 15 [[1, 2], [1, 2, 17], [4], [5, 6], [4]] = some (c_impl_IsCover, [.tmp 4], 30) := by kernel_rfl
abbrev f_impl_coveredBy : Nat := 31
def c_impl_coveredBy : SC :=
 .seq (.reg [
     ⟨(some 2), .box 34 (.tmp 0), none⟩,
     ⟨(some 4), .mv (.const (.slice none 0 0)), none⟩,
     ⟨(some 5), .mv (.const (.bool false)), none⟩] [1, 2])
 (.seq (.reg [
     ⟨(some 11), .faddr 0 (.tmp 2), none⟩,
     ⟨(some 12), .load 1 false (.tmp 11), none⟩,
     ⟨(some 13), .mslice 4 1 (.bool false) (.tmp 12) (.tmp 12), none⟩,
     ⟨(some 6), .mv (.tmp 13), none⟩] [1, 2, 6])
 (.seq (.seq (.reg [
     ⟨(some 14), .mv (.tmp 1), none⟩,
     ⟨(some 15), .len (.tmp 14), none⟩,
     ⟨(some 16), .mv (.const (.int .i64 0)), none⟩] [2, 6, 14, 15, 16])
 (.block 0 (.loop [2, 6, 14, 15, 16]
   (.seq (.reg [
       ⟨(some 17), .bin .lss (.tmp 16) (.tmp 15), none⟩] [2, 6, 14, 15, 16, 17])
   (.seq (.cond (.tmp 17)
    (.skip)
    (.exit 0))
   (.seq (.block 1 (.seq (.reg [
        ⟨(some 18), .iaddr 1 (.tmp 14) (.tmp 16), none⟩,
        ⟨(some 19), .load 1 false (.tmp 18), none⟩,
        ⟨(some 8), .mv (.tmp 19), none⟩] [2, 6, 8, 14, 15, 16])
    (.seq (.reg [
        ⟨(some 20), .faddr 1 (.tmp 2), none⟩,
        ⟨(some 21), .load 1 false (.tmp 20), none⟩,
        ⟨(some 22), .mv (.tmp 8), none⟩,
        ⟨(some 23), .iaddr 1 (.tmp 21) (.tmp 22), none⟩,
        ⟨(some 24), .load 1 false (.tmp 23), none⟩,
        ⟨(some 25), .len (.tmp 24), none⟩,
        ⟨(some 26), .mv (.const (.int .i64 0)), none⟩] [2, 6, 14, 15, 16, 24, 25, 26])
    (.block 2 (.loop [2, 6, 14, 15, 16, 24, 25, 26]
      (.seq (.reg [
          ⟨(some 27), .bin .lss (.tmp 26) (.tmp 25), none⟩] [2, 6, 14, 15, 16, 24, 25, 26, 27])
      (.seq (.cond (.tmp 27)
       (.skip)
       (.exit 2))
      (.seq (.block 3 (.seq (.reg [
           ⟨(some 28), .iaddr 1 (.tmp 24) (.tmp 26), none⟩,
           ⟨(some 29), .load 1 false (.tmp 28), none⟩,
           ⟨(some 10), .mv (.tmp 29), none⟩] [2, 6, 10, 14, 15, 16, 24, 25, 26])
       (.seq (.seq (.reg [
           ⟨(some 30), .mv (.tmp 6), none⟩,
           ⟨(some 31), .mv (.tmp 10), none⟩,
           ⟨(some 32), .iaddr 1 (.tmp 30) (.tmp 31), none⟩,
           ⟨(some 33), .load 1 false (.tmp 32), none⟩] [2, 6, 10, 14, 15, 16, 24, 25, 26, 33])
       (.cond (.tmp 33)
        (.seq (.reg [
            ⟨(some 4), .mv (.const (.slice none 0 0)), none⟩,
            ⟨(some 5), .mv (.const (.bool false)), none⟩] [4, 5])
        (.ret))
        (.skip)))
       (.reg [
           ⟨(some 34), .mv (.tmp 6), none⟩,
           ⟨(some 35), .mv (.tmp 10), none⟩,
           ⟨(some 36), .iaddr 1 (.tmp 34) (.tmp 35), none⟩,
           ⟨none, .store 1 (.tmp 36) (.const (.bool true)), none⟩] [2, 6, 14, 15, 16, 24, 25, 26]))))
      (.reg [
          ⟨(some 37), .bin .add (.tmp 26) (.const (.int .i64 1)), none⟩,
          ⟨(some 26), .mv (.tmp 37), none⟩] [2, 6, 14, 15, 16, 24, 25, 26])))))))))
   (.reg [
       ⟨(some 38), .bin .add (.tmp 16) (.const (.int .i64 1)), none⟩,
       ⟨(some 16), .mv (.tmp 38), none⟩] [2, 6, 14, 15, 16])))))))
 (.seq (.reg [
     ⟨(some 39), .mv (.tmp 6), none⟩,
     ⟨(some 4), .mv (.tmp 39), none⟩,
     ⟨(some 5), .mv (.const (.bool true)), none⟩] [4, 5])
 (.ret))))
theorem s_impl_coveredBy : stripF Try.prog 31 [[1, 2], [1, 2, 6], [2, 6, 14, 15, 16], [2, 6, 14, 15, 16], [2, 6, 14, 15, 16, 17], [2, 6, 8, 14, 15, 16], [2, 6, 14, 15, 16, 24, 25, 26], [2, 6, 14, 15, 16, 24, 25, 26], [2, 6, 14, 15, 16, 24, 25, 26, 27], [2, 6, 10, 14, 15, 16, 24, 25, 26], [2, 6, 10, 14, 15, 16, 24, 25, 26, 33], [4, 5], [2, 6, 14, 15, 16, 24, 25, 26], [2, 6, 14, 15, 16, 24, 25, 26], [2, 6, 14, 15, 16], [4, 5]] = some (c_impl_coveredBy, [.tmp 4, .tmp 5], 40) := by kernel_rfl
abbrev f_slices_Contains_Lbool_bool : Nat := 32
def c_slices_Contains_Lbool_bool : SC :=
 .seq (.reg [
     ⟨(some 4), .mv (.const (.bool false)), none⟩] [0, 1])
 (.seq (.reg [
     ⟨(some 5), .mv (.tmp 0), none⟩,
     ⟨(some 6), .mv (.tmp 1), none⟩,
     ⟨(some 7), .call 56 [(.tmp 5), (.tmp 6)], none⟩,
     ⟨(some 8), .bin .geq (.tmp 7) (.const (.int .i64 0)), none⟩,
     ⟨(some 4), .mv (.tmp 8), none⟩] [4])
 (.ret))
theorem s_slices_Contains_Lbool_bool : stripF Try.prog 32 [[0, 1], [4]] = some (c_slices_Contains_Lbool_bool, [.tmp 4], 9) := by kernel_rfl
abbrev f_slices_Index_Lbool_bool : Nat := 56
def c_slices_Index_Lbool_bool : SC :=
 .seq (.reg [
     ⟨(some 4), .mv (.const (.int .i64 0)), none⟩] [0, 1])
 (.seq (.seq (.reg [
     ⟨(some 6), .mv (.tmp 0), none⟩,
     ⟨(some 7), .len (.tmp 6), none⟩,
     ⟨(some 8), .mv (.const (.int .i64 0)), none⟩] [0, 1, 7, 8])
 (.block 0 (.loop [0, 1, 7, 8]
   (.seq (.reg [
       ⟨(some 9), .bin .lss (.tmp 8) (.tmp 7), none⟩] [0, 1, 7, 8, 9])
   (.seq (.cond (.tmp 9)
    (.skip)
    (.exit 0))
   (.seq (.block 1 (.seq (.reg [
        ⟨(some 10), .mv (.tmp 8), none⟩,
        ⟨(some 5), .mv (.tmp 10), none⟩] [0, 1, 5, 7, 8])
    (.seq (.reg [
        ⟨(some 11), .mv (.tmp 1), none⟩,
        ⟨(some 12), .mv (.tmp 0), none⟩,
        ⟨(some 13), .mv (.tmp 5), none⟩,
        ⟨(some 14), .iaddr 1 (.tmp 12) (.tmp 13), none⟩,
        ⟨(some 15), .load 1 false (.tmp 14), none⟩,
        ⟨(some 16), .binb false (.tmp 11) (.tmp 15), none⟩] [0, 1, 5, 7, 8, 16])
    (.cond (.tmp 16)
     (.seq (.reg [
         ⟨(some 17), .mv (.tmp 5), none⟩,
         ⟨(some 4), .mv (.tmp 17), none⟩] [4])
     (.ret))
     (.skip)))))
   (.reg [
       ⟨(some 18), .bin .add (.tmp 8) (.const (.int .i64 1)), none⟩,
       ⟨(some 8), .mv (.tmp 18), none⟩] [0, 1, 7, 8])))))))
 (.seq (.reg [
     ⟨(some 4), .mv (.const (.int .i64 (-1))), none⟩] [4])
 (.ret)))
theorem s_slices_Index_Lbool_bool : stripF Try.prog 56 [[0, 1], [0, 1, 7, 8], [0, 1, 7, 8], [0, 1, 7, 8, 9], [0, 1, 5, 7, 8], [0, 1, 5, 7, 8, 16], [4], [0, 1, 7, 8], [4]] = some (c_slices_Index_Lbool_bool, [.tmp 4], 19) := by kernel_rfl
theorem IndexB_ok (H : List Blk) (xs : List Bool) (v : Bool) : ACalls Try.prog f_slices_Index_Lbool_bool [ilB xs, Bv v] H (fun r H' => (∃ i : Int, r = I i ∧ (0 ≤ i ↔ xs.contains v = true)) ∧ H' = H) := by
  refine ACalls.introB s_slices_Index_Lbool_bool (by simp) ?_; intro hB hA; unfold c_slices_Index_Lbool_bool; simp (config := { maxSteps := 1000000 }) (disch := (first | omega | (simp only [go_sem]; try omega))) only [go_sem, Nat.reduceAdd, Nat.reduceEqDiff, Nat.reduceLeDiff, Nat.reduceMul, Nat.reduceLT, reduceIte, Int.reduceToNat, w64_id, cast_succ]
  repeat (first | (with_reducible first | refine SW.seq ?_ | refine SW.block ?_ | refine SW.rowC ?_ | refine SW.skip ?_ | refine SW.exit ?_ | intro _ | refine And.intro (by omega) ?_) | simp (config := { maxSteps := 1000000 }) (disch := (first | omega | (simp only [go_sem]; try omega))) only [go_sem, Nat.reduceAdd, Nat.reduceEqDiff, Nat.reduceLeDiff, Nat.reduceMul, Nat.reduceLT, reduceIte, Int.reduceToNat, w64_id, cast_succ])
  refine SW.loopE (fun E0 H0 q E' H' => ∃ (pre post : List Bool), xs = pre ++ post ∧ q = post.length ∧ E' = aput E0 8 (I pre.length) ∧ H' = H0 ∧ pre.contains v = false) xs.length ⟨[], xs, rfl, rfl, rfl, rfl, rfl⟩ ?_
  rintro q E' H' ⟨pre, post, hpp, rfl, rfl, rfl, hn⟩
  simp (config := { maxSteps := 1000000 }) (disch := (first | omega | (simp only [go_sem]; try omega))) only [go_sem, Nat.reduceAdd, Nat.reduceEqDiff, Nat.reduceLeDiff, Nat.reduceMul, Nat.reduceLT, reduceIte, Int.reduceToNat, w64_id, cast_succ]
  repeat (first | (with_reducible first | refine SW.seq ?_ | refine SW.block ?_ | refine SW.rowC ?_ | refine SW.skip ?_ | refine SW.exit ?_ | intro _ | refine And.intro (by omega) ?_) | simp (config := { maxSteps := 1000000 }) (disch := (first | omega | (simp only [go_sem]; try omega))) only [go_sem, Nat.reduceAdd, Nat.reduceEqDiff, Nat.reduceLeDiff, Nat.reduceMul, Nat.reduceLT, reduceIte, Int.reduceToNat, w64_id, cast_succ])
  (first | refine SW.condD rfl (fun h => ?_) (fun h => ?_) | refine SW.condN rfl (fun h => ?_) (fun h => ?_) | refine SW.condNB rfl (fun h => ?_) (fun h => ?_) | refine SW.condB rfl (fun h => ?_) (fun h => ?_))
  · cases post with
    | nil => exfalso; simp at hpp; subst hpp; omega
    | cons x post =>
      have hgx : xs.getD pre.length false = x := by subst hpp; simp
      repeat (first | (with_reducible first | refine SW.seq ?_ | refine SW.block ?_ | refine SW.rowC ?_ | refine SW.skip ?_ | refine SW.exit ?_ | intro _ | refine And.intro (by omega) ?_) | simp (config := { maxSteps := 1000000 }) (disch := (first | omega | (simp only [go_sem]; try omega))) only [go_sem, Nat.reduceAdd, Nat.reduceEqDiff, Nat.reduceLeDiff, Nat.reduceMul, Nat.reduceLT, reduceIte, Int.reduceToNat, w64_id, cast_succ, hgx])
      (first | refine SW.condD rfl (fun h2 => ?_) (fun h2 => ?_) | refine SW.condN rfl (fun h2 => ?_) (fun h2 => ?_) | refine SW.condNB rfl (fun h2 => ?_) (fun h2 => ?_) | refine SW.condB rfl (fun h2 => ?_) (fun h2 => ?_))
      · repeat (first | (with_reducible first | refine SW.seq ?_ | refine SW.block ?_ | refine SW.rowC ?_ | refine SW.skip ?_ | refine SW.exit ?_ | intro _ | refine And.intro (by omega) ?_) | simp (config := { maxSteps := 1000000 }) (disch := (first | omega | (simp only [go_sem]; try omega))) only [go_sem, Nat.reduceAdd, Nat.reduceEqDiff, Nat.reduceLeDiff, Nat.reduceMul, Nat.reduceLT, reduceIte, Int.reduceToNat, w64_id, cast_succ])
        refine SW.ret ?_; (try simp only [go_sem]); (first | refine FunPost.one ?_ | refine FunPost.two ?_ | refine FunPost.three ?_); (try simp (config := { maxSteps := 1000000 }) (disch := (first | omega | (simp only [go_sem]; try omega))) only [go_sem, Nat.reduceAdd, Nat.reduceEqDiff, Nat.reduceLeDiff, Nat.reduceMul, Nat.reduceLT, reduceIte, Int.reduceToNat, w64_id, cast_succ]); (first | (with_reducible refine GR.drop ?_ ?_; (simp only [go_sem, and_self, and_true, true_and, implies_true, List.take_succ_cons, List.take_zero])) | refine GR.of ?_); refine ⟨?_, rfl⟩; (try with_reducible rfl)
        exact ⟨_, rfl, by subst hpp; subst h2; simp⟩
      · repeat (first | (with_reducible first | refine SW.seq ?_ | refine SW.block ?_ | refine SW.rowC ?_ | refine SW.skip ?_ | refine SW.exit ?_ | intro _ | refine And.intro (by omega) ?_) | simp (config := { maxSteps := 1000000 }) (disch := (first | omega | (simp only [go_sem]; try omega))) only [go_sem, Nat.reduceAdd, Nat.reduceEqDiff, Nat.reduceLeDiff, Nat.reduceMul, Nat.reduceLT, reduceIte, Int.reduceToNat, w64_id, cast_succ])
        refine SLoop.next post.length (by simp) ⟨pre ++ [x], post, by simp [hpp], rfl, ?_, rfl, ?_⟩
        · simp [go_sem]
        · simp at hn ⊢; exact ⟨hn, h2⟩
  · repeat (first | (with_reducible first | refine SW.seq ?_ | refine SW.block ?_ | refine SW.rowC ?_ | refine SW.skip ?_ | refine SW.exit ?_ | intro _ | refine And.intro (by omega) ?_) | simp (config := { maxSteps := 1000000 }) (disch := (first | omega | (simp only [go_sem]; try omega))) only [go_sem, Nat.reduceAdd, Nat.reduceEqDiff, Nat.reduceLeDiff, Nat.reduceMul, Nat.reduceLT, reduceIte, Int.reduceToNat, w64_id, cast_succ])
    refine SW.ret ?_; (try simp only [go_sem]); (first | refine FunPost.one ?_ | refine FunPost.two ?_ | refine FunPost.three ?_); (try simp (config := { maxSteps := 1000000 }) (disch := (first | omega | (simp only [go_sem]; try omega))) only [go_sem, Nat.reduceAdd, Nat.reduceEqDiff, Nat.reduceLeDiff, Nat.reduceMul, Nat.reduceLT, reduceIte, Int.reduceToNat, w64_id, cast_succ]); (first | (with_reducible refine GR.drop ?_ ?_; (simp only [go_sem, and_self, and_true, true_and, implies_true, List.take_succ_cons, List.take_zero])) | refine GR.of ?_); refine ⟨?_, rfl⟩; (try with_reducible rfl)
    have : post = [] := by cases post with
      | nil => rfl
      | cons x post => exfalso; subst hpp; simp at h; omega
    subst this
    refine ⟨-1, rfl, ?_⟩
    rw [List.append_nil] at hpp; subst hpp
    simpa using hn
theorem ContainsB_fn (xs : List Bool) (v : Bool) : PFn Try.prog f_slices_Contains_Lbool_bool [ilB xs, Bv v] (Bv (xs.contains v)) := by
  intro H; refine ACalls.introB s_slices_Contains_Lbool_bool (by simp) ?_; intro hB hA; unfold c_slices_Contains_Lbool_bool; simp (config := { maxSteps := 1000000 }) (disch := (first | omega | (simp only [go_sem]; try omega))) only [go_sem, Nat.reduceAdd, Nat.reduceEqDiff, Nat.reduceLeDiff, Nat.reduceMul, Nat.reduceLT, reduceIte, Int.reduceToNat, w64_id, cast_succ]
  repeat (first | (with_reducible first | refine SW.seq ?_ | refine SW.block ?_ | refine SW.rowC ?_ | refine SW.skip ?_ | refine SW.exit ?_ | intro _ | refine And.intro (by omega) ?_) | simp (config := { maxSteps := 1000000 }) (disch := (first | omega | (simp only [go_sem]; try omega))) only [go_sem, Nat.reduceAdd, Nat.reduceEqDiff, Nat.reduceLeDiff, Nat.reduceMul, Nat.reduceLT, reduceIte, Int.reduceToNat, w64_id, cast_succ])
  refine (IndexB_ok H xs v).mono ?_
  rintro r H' ⟨⟨i, rfl, h2⟩, rfl⟩
  repeat (first | (with_reducible first | refine SW.seq ?_ | refine SW.block ?_ | refine SW.rowC ?_ | refine SW.skip ?_ | refine SW.exit ?_ | intro _ | refine And.intro (by omega) ?_) | simp (config := { maxSteps := 1000000 }) (disch := (first | omega | (simp only [go_sem]; try omega))) only [go_sem, Nat.reduceAdd, Nat.reduceEqDiff, Nat.reduceLeDiff, Nat.reduceMul, Nat.reduceLT, reduceIte, Int.reduceToNat, w64_id, cast_succ])
  refine SW.ret ?_; (try simp only [go_sem]); (first | refine FunPost.one ?_ | refine FunPost.two ?_ | refine FunPost.three ?_); (try simp (config := { maxSteps := 1000000 }) (disch := (first | omega | (simp only [go_sem]; try omega))) only [go_sem, Nat.reduceAdd, Nat.reduceEqDiff, Nat.reduceLeDiff, Nat.reduceMul, Nat.reduceLT, reduceIte, Int.reduceToNat, w64_id, cast_succ]); (first | (with_reducible refine GR.drop ?_ ?_; (simp only [go_sem, and_self, and_true, true_and, implies_true, List.take_succ_cons, List.take_zero])) | refine GR.of ?_); refine ⟨?_, rfl⟩; (try with_reducible rfl)
  refine congrArg Bv ?_
  rw [Bool.eq_iff_iff, decide_eq_true_eq, h2]
def itemsOf (xss : List (List Int)) (cols : List Int) : List Int := cols.flatMap fun k => xss.getD k.toNat []
theorem itemsOf_mid (xss : List (List Int)) (pre post : List Int) (k : Int) : itemsOf xss (pre ++ k :: post) = itemsOf xss pre ++ xss.getD k.toNat [] ++ itemsOf xss post := by simp [itemsOf]
theorem itemsOf_snoc (xss : List (List Int)) (pre : List Int) (k : Int) : itemsOf xss (pre ++ [k]) = itemsOf xss pre ++ xss.getD k.toNat [] := by simp [itemsOf]
def marks (n : Nat) (l : List Int) : List Bool := (List.range n).map fun (i : Nat) => l.contains (i : Int)
theorem marks_nil (n : Nat) : List.replicate n false = marks n [] := by
  unfold marks; apply List.ext_getElem <;> simp
theorem marks_length (n : Nat) (l : List Int) : (marks n l).length = n := by simp [marks]
theorem marks_set (n : Nat) (l : List Int) (x : Int) (h0 : 0 ≤ x) : (marks n l).set x.toNat true = marks n (l ++ [x]) := by
  unfold marks
  apply List.ext_getElem
  · simp
  · intro i h1 h2
    simp only [List.getElem_set, List.getElem_map, List.getElem_range]
    split
    · rename_i h; subst h; simp [Int.toNat_of_nonneg h0]
    · rename_i h
      have : ¬ (i : Int) = x := by intro he; apply h; rw [← he]; simp
      simp [this]
theorem marks_get (n : Nat) (l : List Int) (x : Int) (h0 : 0 ≤ x) (h1 : x < n) : (marks n l).getD x.toNat false = l.contains x := by
  have : x.toNat < n := by omega
  simp [marks, this, Int.toNat_of_nonneg h0]
theorem coveredBy_fn (n : Nat) (xss : List (List Int)) (cols : List Int) (hn : n ≤ 1000) (hc : ∀ k ∈ cols, 0 ≤ k ∧ k < xss.length) (hx : ∀ xs ∈ xss, ∀ x ∈ xs, 0 ≤ x ∧ x < n) :
    PFn Try.prog f_impl_coveredBy [.agg [I n, ilSS xss], ilS cols] (if (itemsOf xss cols).Nodup then .tup [ilB (marks n (itemsOf xss cols)), Bv true] else .tup [ilB [], Bv false]) := by
  intro H; refine ACalls.introB s_impl_coveredBy (by simp) ?_; intro hB hA; unfold c_impl_coveredBy; simp (config := { maxSteps := 1000000 }) (disch := (first | omega | (simp only [go_sem]; try omega))) only [go_sem, Nat.reduceAdd, Nat.reduceEqDiff, Nat.reduceLeDiff, Nat.reduceMul, Nat.reduceLT, reduceIte, Int.reduceToNat, w64_id, cast_succ]
  repeat (first | (with_reducible first | refine SW.seq ?_ | refine SW.block ?_ | refine SW.rowC ?_ | refine SW.skip ?_ | refine SW.exit ?_ | intro _ | refine And.intro (by omega) ?_) | simp (config := { maxSteps := 1000000 }) (disch := (first | omega | (simp only [go_sem]; try omega))) only [go_sem, Nat.reduceAdd, Nat.reduceEqDiff, Nat.reduceLeDiff, Nat.reduceMul, Nat.reduceLT, reduceIte, Int.reduceToNat, w64_id, cast_succ])
  rw [marks_nil]
  refine SW.loopE (fun E0 H0 q E' H' => ∃ (pre post : List Int), cols = pre ++ post ∧ q = post.length ∧ E' = aput E0 16 (I pre.length) ∧ H' = H ++ [⟨0, 34, 1, [I n, ilSS xss]⟩, ⟨0, 4, 1, (marks n (itemsOf xss pre)).map Bv⟩] ∧ (itemsOf xss pre).Nodup) cols.length ⟨[], cols, rfl, rfl, rfl, rfl, by simp [itemsOf]⟩ ?_
  rintro q E' H' ⟨pre, post, hp, rfl, rfl, rfl, hnd⟩
  simp (config := { maxSteps := 1000000 }) (disch := (first | omega | (simp only [go_sem]; try omega))) only [go_sem, Nat.reduceAdd, Nat.reduceEqDiff, Nat.reduceLeDiff, Nat.reduceMul, Nat.reduceLT, reduceIte, Int.reduceToNat, w64_id, cast_succ]
  repeat (first | (with_reducible first | refine SW.seq ?_ | refine SW.block ?_ | refine SW.rowC ?_ | refine SW.skip ?_ | refine SW.exit ?_ | intro _ | refine And.intro (by omega) ?_) | simp (config := { maxSteps := 1000000 }) (disch := (first | omega | (simp only [go_sem]; try omega))) only [go_sem, Nat.reduceAdd, Nat.reduceEqDiff, Nat.reduceLeDiff, Nat.reduceMul, Nat.reduceLT, reduceIte, Int.reduceToNat, w64_id, cast_succ])
  (first | refine SW.condD rfl (fun h => ?_) (fun h => ?_) | refine SW.condN rfl (fun h => ?_) (fun h => ?_) | refine SW.condNB rfl (fun h => ?_) (fun h => ?_) | refine SW.condB rfl (fun h => ?_) (fun h => ?_))
  · cases post with
    | nil => exfalso; simp at hp; subst hp; omega
    | cons k post =>
      have hg : cols.getD pre.length 0 = k := by subst hp; simp
      have hk := hc k (by subst hp; simp)
      repeat (first | (with_reducible first | refine SW.seq ?_ | refine SW.block ?_ | refine SW.rowC ?_ | refine SW.skip ?_ | refine SW.exit ?_ | intro _ | refine And.intro (by omega) ?_) | simp (config := { maxSteps := 1000000 }) (disch := (first | omega | (simp only [go_sem]; try omega))) only [go_sem, Nat.reduceAdd, Nat.reduceEqDiff, Nat.reduceLeDiff, Nat.reduceMul, Nat.reduceLT, reduceIte, Int.reduceToNat, w64_id, cast_succ, hg])
      generalize hset : xss.getD k.toNat [] = set at *
      have hset' : ∀ x ∈ set, 0 ≤ x ∧ x < n := by
        intro x hxs
        refine hx set ?_ x hxs
        rw [← hset]; simp [List.getElem?_eq_getElem (show k.toNat < xss.length by omega)]
      refine SW.loopE (fun E0 H0 q E' H' => ∃ (pr po : List Int), set = pr ++ po ∧ q = po.length ∧ E' = aput E0 26 (I pr.length) ∧ H' = H ++ [⟨0, 34, 1, [I n, ilSS xss]⟩, ⟨0, 4, 1, (marks n (itemsOf xss pre ++ pr)).map Bv⟩] ∧ (itemsOf xss pre ++ pr).Nodup) set.length ⟨[], set, rfl, rfl, rfl, by simp, by simpa using hnd⟩ ?_
      rintro q E' H' ⟨pr, po, hpx, rfl, rfl, rfl, hnd2⟩
      simp (config := { maxSteps := 1000000 }) (disch := (first | omega | (simp only [go_sem]; try omega))) only [go_sem, Nat.reduceAdd, Nat.reduceEqDiff, Nat.reduceLeDiff, Nat.reduceMul, Nat.reduceLT, reduceIte, Int.reduceToNat, w64_id, cast_succ]
      repeat (first | (with_reducible first | refine SW.seq ?_ | refine SW.block ?_ | refine SW.rowC ?_ | refine SW.skip ?_ | refine SW.exit ?_ | intro _ | refine And.intro (by omega) ?_) | simp (config := { maxSteps := 1000000 }) (disch := (first | omega | (simp only [go_sem]; try omega))) only [go_sem, Nat.reduceAdd, Nat.reduceEqDiff, Nat.reduceLeDiff, Nat.reduceMul, Nat.reduceLT, reduceIte, Int.reduceToNat, w64_id, cast_succ])
      (first | refine SW.condD rfl (fun h6 => ?_) (fun h6 => ?_) | refine SW.condN rfl (fun h6 => ?_) (fun h6 => ?_) | refine SW.condNB rfl (fun h6 => ?_) (fun h6 => ?_) | refine SW.condB rfl (fun h6 => ?_) (fun h6 => ?_))
      · cases po with
        | nil => exfalso; simp at hpx; subst hpx; omega
        | cons y po =>
          have hgy : set.getD pr.length 0 = y := by subst hpx; simp
          have hy := hset' y (by subst hpx; simp)
          have htk : ((marks n (itemsOf xss pre ++ pr)).map Bv).take n = (marks n (itemsOf xss pre ++ pr)).map Bv := List.take_of_length_le (by simp [marks_length])
          have hll := marks_length n (itemsOf xss pre ++ pr)
          repeat (first | (with_reducible first | refine SW.seq ?_ | refine SW.block ?_ | refine SW.rowC ?_ | refine SW.skip ?_ | refine SW.exit ?_ | intro _ | refine And.intro (by omega) ?_) | simp (config := { maxSteps := 1000000 }) (disch := (first | omega | (simp only [go_sem]; try omega))) only [go_sem, Nat.reduceAdd, Nat.reduceEqDiff, Nat.reduceLeDiff, Nat.reduceMul, Nat.reduceLT, reduceIte, Int.reduceToNat, w64_id, cast_succ, hgy, htk, marks_get n _ y hy.1 hy.2])
          (first | refine SW.condD rfl (fun h7 => ?_) (fun h7 => ?_) | refine SW.condN rfl (fun h7 => ?_) (fun h7 => ?_) | refine SW.condNB rfl (fun h7 => ?_) (fun h7 => ?_) | refine SW.condB rfl (fun h7 => ?_) (fun h7 => ?_))
          · repeat (first | (with_reducible first | refine SW.seq ?_ | refine SW.block ?_ | refine SW.rowC ?_ | refine SW.skip ?_ | refine SW.exit ?_ | intro _ | refine And.intro (by omega) ?_) | simp (config := { maxSteps := 1000000 }) (disch := (first | omega | (simp only [go_sem]; try omega))) only [go_sem, Nat.reduceAdd, Nat.reduceEqDiff, Nat.reduceLeDiff, Nat.reduceMul, Nat.reduceLT, reduceIte, Int.reduceToNat, w64_id, cast_succ])
            refine SW.ret ?_; (try simp only [go_sem]); (first | refine FunPost.one ?_ | refine FunPost.two ?_ | refine FunPost.three ?_); (try simp (config := { maxSteps := 1000000 }) (disch := (first | omega | (simp only [go_sem]; try omega))) only [go_sem, Nat.reduceAdd, Nat.reduceEqDiff, Nat.reduceLeDiff, Nat.reduceMul, Nat.reduceLT, reduceIte, Int.reduceToNat, w64_id, cast_succ])
            refine GR.froz (r' := .tup [ilB [], Bv false]) (froz_tup2 .nil (froz_B' _)) ⟨?_, rfl⟩
            rw [if_neg]
            rw [hp, itemsOf_mid, hset, hpx]
            intro hnd3
            have h8 := (List.nodup_append.1 hnd3).1
            rw [← List.append_assoc] at h8
            exact (List.nodup_append.1 h8).2.2 y (by simpa using h7) y (by simp) rfl
          · repeat (first | (with_reducible first | refine SW.seq ?_ | refine SW.block ?_ | refine SW.rowC ?_ | refine SW.skip ?_ | refine SW.exit ?_ | intro _ | refine And.intro (by omega) ?_) | simp (config := { maxSteps := 1000000 }) (disch := (first | omega | (simp only [go_sem]; try omega))) only [go_sem, Nat.reduceAdd, Nat.reduceEqDiff, Nat.reduceLeDiff, Nat.reduceMul, Nat.reduceLT, reduceIte, Int.reduceToNat, w64_id, cast_succ, htk])
            refine SLoop.next po.length (by simp) ⟨pr ++ [y], po, by simp [hpx], rfl, ?_, ?_, ?_⟩
            · simp [go_sem]
            · rw [marks_set n _ y hy.1, List.append_assoc]
            · rw [← List.append_assoc, List.nodup_append]
              refine ⟨hnd2, by simp, ?_⟩
              rintro a ha b hb rfl
              simp at hb; subst hb
              simp at h7 ha
              rcases ha with ha | ha
              · exact h7.1 ha
              · exact h7.2 ha
      · have : po = [] := by cases po with
          | nil => rfl
          | cons y po => exfalso; subst hpx; simp at h6; omega
        subst this
        rw [List.append_nil] at hpx
        subst hpx
        repeat (first | (with_reducible first | refine SW.seq ?_ | refine SW.block ?_ | refine SW.rowC ?_ | refine SW.skip ?_ | refine SW.exit ?_ | intro _ | refine And.intro (by omega) ?_) | simp (config := { maxSteps := 1000000 }) (disch := (first | omega | (simp only [go_sem]; try omega))) only [go_sem, Nat.reduceAdd, Nat.reduceEqDiff, Nat.reduceLeDiff, Nat.reduceMul, Nat.reduceLT, reduceIte, Int.reduceToNat, w64_id, cast_succ])
        refine SLoop.next post.length (by simp) ⟨pre ++ [k], post, by simp [hp], rfl, ?_, ?_, ?_⟩
        · simp [go_sem]
        · rw [itemsOf_snoc, hset]
        · rw [itemsOf_snoc, hset]; exact hnd2
  · have : post = [] := by cases post with
      | nil => rfl
      | cons x post => exfalso; subst hp; simp at h; omega
    subst this
    rw [List.append_nil] at hp
    subst hp
    repeat (first | (with_reducible first | refine SW.seq ?_ | refine SW.block ?_ | refine SW.rowC ?_ | refine SW.skip ?_ | refine SW.exit ?_ | intro _ | refine And.intro (by omega) ?_) | simp (config := { maxSteps := 1000000 }) (disch := (first | omega | (simp only [go_sem]; try omega))) only [go_sem, Nat.reduceAdd, Nat.reduceEqDiff, Nat.reduceLeDiff, Nat.reduceMul, Nat.reduceLT, reduceIte, Int.reduceToNat, w64_id, cast_succ])
    refine SW.ret ?_; (try simp only [go_sem]); (first | refine FunPost.one ?_ | refine FunPost.two ?_ | refine FunPost.three ?_); (try simp (config := { maxSteps := 1000000 }) (disch := (first | omega | (simp only [go_sem]; try omega))) only [go_sem, Nat.reduceAdd, Nat.reduceEqDiff, Nat.reduceLeDiff, Nat.reduceMul, Nat.reduceLT, reduceIte, Int.reduceToNat, w64_id, cast_succ])
    have hll := marks_length n (itemsOf xss cols)
    have hf := froz_rowB (H := H ++ [⟨0, 34, 1, [I n, ilSS xss]⟩, ⟨0, 4, 1, (marks n (itemsOf xss cols)).map Bv⟩]) (b := H.length) (r := H.length + 1) (ver := 0) (ty := 4) (xs := marks n (itemsOf xss cols)) (by omega) (by simp)
    rw [hll] at hf
    refine GR.froz (froz_tup2 hf (froz_B' _)) ⟨?_, rfl⟩
    rw [if_pos hnd]
def coverB (n : Int) (xss : List (List Int)) (cols : List Int) : Bool :=
  coverOk n xss && asc 0 (xss.length - 1) cols && decide (itemsOf xss cols).Nodup && !(marks n.toNat (itemsOf xss cols)).contains false
theorem coverOk_facts {n : Int} {xss : List (List Int)} (h : coverOk n xss = true) : 1 ≤ n ∧ n ≤ 64 ∧ xss.length ≤ 256 ∧ ∀ xs ∈ xss, (∀ x ∈ xs, 0 ≤ x ∧ x < n) ∧ xs.length ≤ 64 := by
  simp only [coverOk, Bool.and_eq_true, decide_eq_true_eq, List.all_eq_true] at h
  refine ⟨h.1.1.1, h.1.1.2, h.1.2, fun xs hx => ⟨fun x hxs => ?_, ?_⟩⟩
  · have := asc_mem (h.2 xs hx).2 x hxs; omega
  · rcases asc_len (h.2 xs hx).2 with h2 | h2
    · subst h2; simp
    · omega
theorem implIsCover_fn (n : Int) (xss : List (List Int)) (cols : List Int) (hx : ∀ xs ∈ xss, ∀ x ∈ xs, (Lit.int .i64 x).wf = true) (hx2 : ∀ x ∈ cols, (Lit.int .i64 x).wf = true) (hl : xss.length ≤ 1073741824) : PFn Try.prog f_impl_IsCover [.agg [I n, ilSS xss], ilS cols] (Bv (coverB n xss cols)) := by
  intro H; refine ACalls.introB s_impl_IsCover (by simp) ?_; intro hB hA; unfold c_impl_IsCover; simp (config := { maxSteps := 1000000 }) (disch := (first | omega | (simp only [go_sem]; try omega))) only [go_sem, Nat.reduceAdd, Nat.reduceEqDiff, Nat.reduceLeDiff, Nat.reduceMul, Nat.reduceLT, reduceIte, Int.reduceToNat, w64_id, cast_succ]
  repeat (first | (with_reducible first | refine SW.seq ?_ | refine SW.block ?_ | refine SW.rowC ?_ | refine SW.skip ?_ | refine SW.exit ?_ | refine PFn.use (implValidCover_fn n xss hx) ?_ | refine PFn.useq (implValidCover_fn n xss hx) ?_ | intro _ | refine And.intro (by omega) ?_) | simp (config := { maxSteps := 1000000 }) (disch := (first | omega | (simp only [go_sem]; try omega))) only [go_sem, Nat.reduceAdd, Nat.reduceEqDiff, Nat.reduceLeDiff, Nat.reduceMul, Nat.reduceLT, reduceIte, Int.reduceToNat, w64_id, cast_succ])
  (first | refine GSplit.df (fun h => ?_) (fun h => ?_) | refine GSplit.dt (fun h => ?_) (fun h => ?_) | refine GSplit.ndf (fun h => ?_) (fun h => ?_) | refine GSplit.ndt (fun h => ?_) (fun h => ?_) | refine GSplit.nbf (fun h => ?_) (fun h => ?_) | refine GSplit.nbt (fun h => ?_) (fun h => ?_) | refine GSplit.bf (fun h => ?_) (fun h => ?_) | refine GSplit.bt (fun h => ?_) (fun h => ?_))
  · have hf := coverOk_facts h
    obtain ⟨m, rfl⟩ := Int.eq_ofNat_of_zero_le (show 0 ≤ n by omega)
    repeat (first | (with_reducible first | refine SW.seq ?_ | refine SW.block ?_ | refine SW.rowC ?_ | refine SW.skip ?_ | refine SW.exit ?_ | refine PFn.use (sizeS_fn _) ?_ | refine PFn.useq (sizeS_fn _) ?_ | refine PFn.use (areIndices_fn cols xss.length hx2 (by omega) (by omega)) ?_ | refine PFn.useq (areIndices_fn cols xss.length hx2 (by omega) (by omega)) ?_ | intro _ | refine And.intro (by omega) ?_) | simp (config := { maxSteps := 1000000 }) (disch := (first | omega | (simp only [go_sem]; try omega))) only [go_sem, Nat.reduceAdd, Nat.reduceEqDiff, Nat.reduceLeDiff, Nat.reduceMul, Nat.reduceLT, reduceIte, Int.reduceToNat, w64_id, cast_succ])
    (first | refine SW.condD rfl (fun h2 => ?_) (fun h2 => ?_) | refine SW.condN rfl (fun h2 => ?_) (fun h2 => ?_) | refine SW.condNB rfl (fun h2 => ?_) (fun h2 => ?_) | refine SW.condB rfl (fun h2 => ?_) (fun h2 => ?_))
    · repeat (first | (with_reducible first | refine SW.seq ?_ | refine SW.block ?_ | refine SW.rowC ?_ | refine SW.skip ?_ | refine SW.exit ?_ | intro _ | refine And.intro (by omega) ?_) | simp (config := { maxSteps := 1000000 }) (disch := (first | omega | (simp only [go_sem]; try omega))) only [go_sem, Nat.reduceAdd, Nat.reduceEqDiff, Nat.reduceLeDiff, Nat.reduceMul, Nat.reduceLT, reduceIte, Int.reduceToNat, w64_id, cast_succ])
      refine SW.ret ?_; (try simp only [go_sem]); (first | refine FunPost.one ?_ | refine FunPost.two ?_ | refine FunPost.three ?_); (try simp (config := { maxSteps := 1000000 }) (disch := (first | omega | (simp only [go_sem]; try omega))) only [go_sem, Nat.reduceAdd, Nat.reduceEqDiff, Nat.reduceLeDiff, Nat.reduceMul, Nat.reduceLT, reduceIte, Int.reduceToNat, w64_id, cast_succ]); (first | (with_reducible refine GR.drop ?_ ?_; (simp only [go_sem, and_self, and_true, true_and, implies_true, List.take_succ_cons, List.take_zero])) | refine GR.of ?_); refine ⟨?_, rfl⟩; (try with_reducible rfl)
      rw [coverB, h, h2]; rfl
    · have ha := asc_mem h2
      have hcb := coveredBy_fn m xss cols (by omega) (fun k hk => by have := ha k hk; omega) (fun xs hxs => (hf.2.2.2 xs hxs).1)
      by_cases hnd : (itemsOf xss cols).Nodup
      · rw [if_pos hnd] at hcb
        repeat (first | (with_reducible first | refine SW.seq ?_ | refine SW.block ?_ | refine SW.rowC ?_ | refine SW.skip ?_ | refine SW.exit ?_ | refine PFn.use (hcb) ?_ | refine PFn.useq (hcb) ?_ | refine PFn.use (ContainsB_fn _ _) ?_ | refine PFn.useq (ContainsB_fn _ _) ?_ | intro _ | refine And.intro (by omega) ?_) | simp (config := { maxSteps := 1000000 }) (disch := (first | omega | (simp only [go_sem]; try omega))) only [go_sem, Nat.reduceAdd, Nat.reduceEqDiff, Nat.reduceLeDiff, Nat.reduceMul, Nat.reduceLT, reduceIte, Int.reduceToNat, w64_id, cast_succ])
        refine SW.ret ?_; (try simp only [go_sem]); (first | refine FunPost.one ?_ | refine FunPost.two ?_ | refine FunPost.three ?_); (try simp (config := { maxSteps := 1000000 }) (disch := (first | omega | (simp only [go_sem]; try omega))) only [go_sem, Nat.reduceAdd, Nat.reduceEqDiff, Nat.reduceLeDiff, Nat.reduceMul, Nat.reduceLT, reduceIte, Int.reduceToNat, w64_id, cast_succ]); (first | (with_reducible refine GR.drop ?_ ?_; (simp only [go_sem, and_self, and_true, true_and, implies_true, List.take_succ_cons, List.take_zero])) | refine GR.of ?_); refine ⟨?_, rfl⟩; (try with_reducible rfl)
        rw [coverB, h, h2]; simp [hnd]
      · rw [if_neg hnd] at hcb
        repeat (first | (with_reducible first | refine SW.seq ?_ | refine SW.block ?_ | refine SW.rowC ?_ | refine SW.skip ?_ | refine SW.exit ?_ | refine PFn.use (hcb) ?_ | refine PFn.useq (hcb) ?_ | intro _ | refine And.intro (by omega) ?_) | simp (config := { maxSteps := 1000000 }) (disch := (first | omega | (simp only [go_sem]; try omega))) only [go_sem, Nat.reduceAdd, Nat.reduceEqDiff, Nat.reduceLeDiff, Nat.reduceMul, Nat.reduceLT, reduceIte, Int.reduceToNat, w64_id, cast_succ])
        refine SW.ret ?_; (try simp only [go_sem]); (first | refine FunPost.one ?_ | refine FunPost.two ?_ | refine FunPost.three ?_); (try simp (config := { maxSteps := 1000000 }) (disch := (first | omega | (simp only [go_sem]; try omega))) only [go_sem, Nat.reduceAdd, Nat.reduceEqDiff, Nat.reduceLeDiff, Nat.reduceMul, Nat.reduceLT, reduceIte, Int.reduceToNat, w64_id, cast_succ]); (first | (with_reducible refine GR.drop ?_ ?_; (simp only [go_sem, and_self, and_true, true_and, implies_true, List.take_succ_cons, List.take_zero])) | refine GR.of ?_); refine ⟨?_, rfl⟩; (try with_reducible rfl)
        rw [coverB, h, h2]; simp [hnd]
  · repeat (first | (with_reducible first | refine SW.seq ?_ | refine SW.block ?_ | refine SW.rowC ?_ | refine SW.skip ?_ | refine SW.exit ?_ | intro _ | refine And.intro (by omega) ?_) | simp (config := { maxSteps := 1000000 }) (disch := (first | omega | (simp only [go_sem]; try omega))) only [go_sem, Nat.reduceAdd, Nat.reduceEqDiff, Nat.reduceLeDiff, Nat.reduceMul, Nat.reduceLT, reduceIte, Int.reduceToNat, w64_id, cast_succ])
    (first | refine SW.condD rfl (fun h2 => ?_) (fun h2 => ?_) | refine SW.condN rfl (fun h2 => ?_) (fun h2 => ?_) | refine SW.condNB rfl (fun h2 => ?_) (fun h2 => ?_) | refine SW.condB rfl (fun h2 => ?_) (fun h2 => ?_))
    · repeat (first | (with_reducible first | refine SW.seq ?_ | refine SW.block ?_ | refine SW.rowC ?_ | refine SW.skip ?_ | refine SW.exit ?_ | intro _ | refine And.intro (by omega) ?_) | simp (config := { maxSteps := 1000000 }) (disch := (first | omega | (simp only [go_sem]; try omega))) only [go_sem, Nat.reduceAdd, Nat.reduceEqDiff, Nat.reduceLeDiff, Nat.reduceMul, Nat.reduceLT, reduceIte, Int.reduceToNat, w64_id, cast_succ])
      refine SW.ret ?_; (try simp only [go_sem]); (first | refine FunPost.one ?_ | refine FunPost.two ?_ | refine FunPost.three ?_); (try simp (config := { maxSteps := 1000000 }) (disch := (first | omega | (simp only [go_sem]; try omega))) only [go_sem, Nat.reduceAdd, Nat.reduceEqDiff, Nat.reduceLeDiff, Nat.reduceMul, Nat.reduceLT, reduceIte, Int.reduceToNat, w64_id, cast_succ]); (first | (with_reducible refine GR.drop ?_ ?_; (simp only [go_sem, and_self, and_true, true_and, implies_true, List.take_succ_cons, List.take_zero])) | refine GR.of ?_); refine ⟨?_, rfl⟩; (try with_reducible rfl)
      rw [coverB, h]; rfl
    · cases h2
end Go.Proofs.Ytnlfokkljgbaaaa
