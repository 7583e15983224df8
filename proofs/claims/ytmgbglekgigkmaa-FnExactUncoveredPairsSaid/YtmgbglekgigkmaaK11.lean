/- The search for difference sets: the program. -/
import Derived.Test.YtmgbglekgigkmaaProg
import Derived.KernelRfl
import Derived.Test.YtmgbglekgigkmaaK10
set_option linter.unusedSimpArgs false
set_option linter.unusedVariables false
set_option maxHeartbeats 4000000
namespace Go.Proofs.Ytmgbglekgigkmaa
open Go.Av

/-! The abstract code of functions, printed by program and tied to the program by the kernel. -/
/-- (*loop.example/g00920/impl.finder).search -/
abbrev f_impl_finder_search : Nat := 99
def c_impl_finder_search : SC :=
 .seq (.reg [
     ⟨(some 4), .mv (.const (.slice none 0 0)), none⟩,
     ⟨(some 5), .mv (.const (.bool false)), none⟩] [0, 1])
 (.seq (.seq (.reg [
     ⟨(some 9), .mv (.tmp 0), none⟩,
     ⟨(some 10), .nilc (.tmp 9), none⟩,
     ⟨(some 11), .faddr 0 (.tmp 10), none⟩,
     ⟨(some 12), .faddr 1 (.tmp 11), none⟩,
     ⟨(some 13), .load 1 false (.tmp 12), none⟩,
     ⟨(some 14), .mv (.tmp 13), none⟩,
     ⟨(some 15), .mv (.tmp 0), (some (14, false))⟩,
     ⟨(some 16), .nilc (.tmp 15), (some (14, false))⟩,
     ⟨(some 17), .faddr 0 (.tmp 16), (some (14, false))⟩,
     ⟨(some 18), .call 130 [(.tmp 17)], (some (14, false))⟩,
     ⟨(some 19), .un .not (.tmp 18), (some (14, false))⟩,
     ⟨(some 20), .pick (.tmp 14) (.const (.bool true)) (.tmp 19), none⟩] [0, 1, 20])
 (.cond (.tmp 20)
  (.seq (.reg [
      ⟨(some 4), .mv (.const (.slice none 0 0)), none⟩,
      ⟨(some 5), .mv (.const (.bool false)), none⟩] [4, 5])
  (.ret))
  (.skip)))
 (.seq (.seq (.reg [
     ⟨(some 21), .mv (.tmp 0), none⟩,
     ⟨(some 22), .nilc (.tmp 21), none⟩,
     ⟨(some 23), .faddr 2 (.tmp 22), none⟩,
     ⟨(some 24), .load 1 false (.tmp 23), none⟩,
     ⟨(some 25), .mv (.tmp 1), none⟩,
     ⟨(some 29), .mv (.tmp 0), none⟩,
     ⟨(some 30), .nilc (.tmp 29), none⟩,
     ⟨(some 31), .faddr 4 (.tmp 30), none⟩,
     ⟨(some 32), .load 1 false (.tmp 31), none⟩,
     ⟨(some 26), .bslice 42 1 1 [(.slice none 0 0)] [(0, (.tmp 25))], none⟩,
     ⟨(some 27), .qcall 132 [(.tmp 24), (.tmp 26)], none⟩,
     ⟨(some 28), .qcall 131 [(.tmp 27)], none⟩,
     ⟨(some 33), .bin .gtr (.tmp 28) (.tmp 32), none⟩] [0, 1, 33])
 (.cond (.tmp 33)
  (.seq (.reg [
      ⟨(some 4), .mv (.const (.slice none 0 0)), none⟩,
      ⟨(some 5), .mv (.const (.bool false)), none⟩] [4, 5])
  (.ret))
  (.skip)))
 (.seq (.seq (.reg [
     ⟨(some 34), .mv (.tmp 1), none⟩,
     ⟨(some 35), .qcall 83 [(.tmp 34)], none⟩,
     ⟨(some 36), .mv (.tmp 0), none⟩,
     ⟨(some 37), .nilc (.tmp 36), none⟩,
     ⟨(some 38), .faddr 3 (.tmp 37), none⟩,
     ⟨(some 39), .load 1 false (.tmp 38), none⟩,
     ⟨(some 40), .bin .eql (.tmp 35) (.tmp 39), none⟩] [0, 1, 40])
 (.cond (.tmp 40)
  (.seq (.reg [
      ⟨(some 41), .mv (.tmp 1), none⟩,
      ⟨(some 4), .mv (.tmp 41), none⟩,
      ⟨(some 5), .mv (.const (.bool true)), none⟩] [4, 5])
  (.ret))
  (.skip)))
 (.seq (.seq (.reg [
     ⟨(some 42), .mv (.tmp 1), none⟩,
     ⟨(some 43), .mv (.tmp 1), none⟩,
     ⟨(some 44), .len (.tmp 43), none⟩,
     ⟨(some 45), .bin .sub (.tmp 44) (.const (.int .i64 1)), none⟩,
     ⟨(some 46), .iaddr 1 (.tmp 42) (.tmp 45), none⟩,
     ⟨(some 47), .load 1 false (.tmp 46), none⟩,
     ⟨(some 48), .bin .add (.tmp 47) (.const (.int .i64 1)), none⟩,
     ⟨(some 6), .mv (.tmp 48), none⟩] [0, 1, 6])
 (.block 0 (.loop [0, 1, 6]
   (.seq (.seq (.reg [
       ⟨(some 49), .mv (.tmp 6), none⟩,
       ⟨(some 50), .mv (.tmp 0), none⟩,
       ⟨(some 51), .nilc (.tmp 50), none⟩,
       ⟨(some 52), .faddr 2 (.tmp 51), none⟩,
       ⟨(some 53), .load 1 false (.tmp 52), none⟩,
       ⟨(some 54), .bin .lss (.tmp 49) (.tmp 53), none⟩] [0, 1, 6, 54])
   (.cond (.tmp 54)
    (.skip)
    (.exit 0)))
   (.seq (.block 1 (.seq (.reg [
        ⟨(some 58), .mv (.tmp 0), none⟩,
        ⟨(some 59), .mv (.tmp 1), none⟩,
        ⟨(some 60), .call 133 [(.tmp 59)], none⟩,
        ⟨(some 61), .mv (.tmp 6), none⟩,
        ⟨(some 62), .bslice 2 1 1 [(.int .i64 0)] [(0, (.tmp 61))], none⟩,
        ⟨(some 63), .app 2 1 8 (.tmp 60) (.tmp 62), none⟩,
        ⟨(some 64), .call 99 [(.tmp 58), (.tmp 63)], none⟩,
        ⟨(some 57), .mv (.tmp 64), none⟩,
        ⟨(some 65), .ext (.tmp 57) 0, none⟩,
        ⟨(some 66), .ext (.tmp 57) 1, none⟩,
        ⟨(some 7), .mv (.tmp 65), none⟩,
        ⟨(some 8), .mv (.tmp 66), none⟩] [0, 1, 6, 7, 8])
    (.seq (.reg [
        ⟨(some 67), .mv (.tmp 8), none⟩] [0, 1, 6, 7, 67])
    (.cond (.tmp 67)
     (.seq (.reg [
         ⟨(some 68), .mv (.tmp 7), none⟩,
         ⟨(some 4), .mv (.tmp 68), none⟩,
         ⟨(some 5), .mv (.const (.bool true)), none⟩] [4, 5])
     (.ret))
     (.skip)))))
   (.reg [
       ⟨(some 55), .mv (.tmp 6), none⟩,
       ⟨(some 56), .bin .add (.tmp 55) (.const (.int .i64 1)), none⟩,
       ⟨(some 6), .mv (.tmp 56), none⟩] [0, 1, 6]))))))
 (.seq (.reg [
     ⟨(some 4), .mv (.const (.slice none 0 0)), none⟩,
     ⟨(some 5), .mv (.const (.bool false)), none⟩] [4, 5])
 (.ret))))))
theorem s_impl_finder_search : stripF Try.prog 99 [[0, 1], [0, 1, 20], [4, 5], [0, 1, 33], [4, 5], [0, 1, 40], [4, 5], [0, 1, 6], [0, 1, 6], [0, 1, 6, 54], [0, 1, 6, 7, 8], [0, 1, 6, 7, 67], [4, 5], [0, 1, 6], [4, 5]] = some (c_impl_finder_search, [.tmp 4, .tmp 5], 69) := by kernel_rfl

/-- (*loop.example/g00920/impl.counter).node -/
abbrev f_impl_counter_node : Nat := 130
def c_impl_counter_node : SC :=
 .seq (.reg [
     ⟨(some 2), .mv (.const (.bool false)), none⟩] [0])
 (.seq (.seq (.reg [
     ⟨(some 3), .mv (.tmp 0), none⟩,
     ⟨(some 4), .nilc (.tmp 3), none⟩,
     ⟨(some 5), .faddr 0 (.tmp 4), none⟩,
     ⟨(some 6), .load 1 false (.tmp 5), none⟩,
     ⟨(some 7), .bin .eql (.tmp 6) (.const (.int .i64 0)), none⟩] [0, 7])
 (.cond (.tmp 7)
  (.seq (.reg [
      ⟨(some 8), .mv (.tmp 0), none⟩,
      ⟨(some 9), .nilc (.tmp 8), none⟩,
      ⟨(some 10), .faddr 1 (.tmp 9), none⟩,
      ⟨none, .store 1 (.tmp 10) (.const (.bool true)), none⟩] [])
  (.seq (.reg [
      ⟨(some 2), .mv (.const (.bool false)), none⟩] [2])
  (.ret)))
  (.skip)))
 (.seq (.reg [
     ⟨(some 11), .mv (.tmp 0), none⟩,
     ⟨(some 12), .nilc (.tmp 11), none⟩,
     ⟨(some 13), .faddr 0 (.tmp 12), none⟩,
     ⟨(some 14), .load 1 false (.tmp 13), none⟩,
     ⟨(some 15), .bin .sub (.tmp 14) (.const (.int .i64 1)), none⟩,
     ⟨(some 16), .nilc (.tmp 11), none⟩,
     ⟨(some 17), .faddr 0 (.tmp 16), none⟩,
     ⟨none, .store 1 (.tmp 17) (.tmp 15), none⟩] [])
 (.seq (.reg [
     ⟨(some 2), .mv (.const (.bool true)), none⟩] [2])
 (.ret))))
theorem s_impl_counter_node : stripF Try.prog 130 [[0], [0, 7], [], [2], [], [2]] = some (c_impl_counter_node, [.tmp 2], 18) := by kernel_rfl

/-- slices.Max[[]int64,int64] -/
abbrev f_slices_Max_Lint64_int64 : Nat := 131
def c_slices_Max_Lint64_int64 : SC :=
 .seq (.reg [
     ⟨(some 2), .mv (.const (.int .i64 0)), none⟩] [0])
 (.seq (.seq (.reg [
     ⟨(some 5), .mv (.tmp 0), none⟩,
     ⟨(some 6), .len (.tmp 5), none⟩,
     ⟨(some 7), .bin .lss (.tmp 6) (.const (.int .i64 1)), none⟩] [0, 7])
 (.cond (.tmp 7)
  (.reg [
      ⟨(some 8), .bad, none⟩,
      ⟨none, .bad, none⟩] [0])
  (.skip)))
 (.seq (.reg [
     ⟨(some 9), .mv (.tmp 0), none⟩,
     ⟨(some 10), .iaddr 1 (.tmp 9) (.const (.int .i64 0)), none⟩,
     ⟨(some 11), .load 1 false (.tmp 10), none⟩,
     ⟨(some 3), .mv (.tmp 11), none⟩] [0, 3])
 (.seq (.seq (.reg [
     ⟨(some 4), .mv (.const (.int .i64 1)), none⟩] [0, 3, 4])
 (.block 0 (.loop [0, 3, 4]
   (.seq (.seq (.reg [
       ⟨(some 12), .mv (.tmp 4), none⟩,
       ⟨(some 13), .mv (.tmp 0), none⟩,
       ⟨(some 14), .len (.tmp 13), none⟩,
       ⟨(some 15), .bin .lss (.tmp 12) (.tmp 14), none⟩] [0, 3, 4, 15])
   (.cond (.tmp 15)
    (.skip)
    (.exit 0)))
   (.seq (.block 1 (.reg [
        ⟨(some 18), .mv (.tmp 3), none⟩,
        ⟨(some 19), .mv (.tmp 0), none⟩,
        ⟨(some 20), .mv (.tmp 4), none⟩,
        ⟨(some 21), .iaddr 1 (.tmp 19) (.tmp 20), none⟩,
        ⟨(some 22), .load 1 false (.tmp 21), none⟩,
        ⟨(some 23), .mm true (.tmp 18) (.tmp 22), none⟩,
        ⟨(some 3), .mv (.tmp 23), none⟩] [0, 3, 4]))
   (.reg [
       ⟨(some 16), .mv (.tmp 4), none⟩,
       ⟨(some 17), .bin .add (.tmp 16) (.const (.int .i64 1)), none⟩,
       ⟨(some 4), .mv (.tmp 17), none⟩] [0, 3, 4]))))))
 (.seq (.reg [
     ⟨(some 24), .mv (.tmp 3), none⟩,
     ⟨(some 2), .mv (.tmp 24), none⟩] [2])
 (.ret)))))
theorem s_slices_Max_Lint64_int64 : stripF Try.prog 131 [[0], [0, 7], [0], [0, 3], [0, 3, 4], [0, 3, 4], [0, 3, 4, 15], [0, 3, 4], [0, 3, 4], [2]] = some (c_slices_Max_Lint64_int64, [.tmp 2], 25) := by kernel_rfl


theorem froz_rd {H : List Blk} {b r ver len : Nat} {xs : List Int} (hb : b ≤ r) (ha : RdS H (.nm r ver 0 len) xs) : Froz H b (.nm r ver 0 len) (ilS xs) := by
  simp only [RdS, aview] at ha
  split at ha
  case h_2 => simp at ha
  case h_1 k hk =>
    split at ha
    case isFalse => simp at ha
    case isTrue hv =>
      simp only [Option.some.injEq, Prod.mk.injEq] at ha
      obtain ⟨rfl, h2⟩ := ha
      refine .nm r ver 0 xs.length k (xs.map I) hb hk hv (by rw [h2]) ?_
      intro j c c' g1 g2
      rw [h2, g2] at g1; cases g1
      obtain ⟨x, _, rfl⟩ := List.mem_map.1 (List.mem_of_getElem? g2)
      exact froz_I _ _ _

theorem froz_one {H : List Blk} {b t ty : Nat} {c : AV} {xs : List Int} (hb : b ≤ t) (ht : H[t]? = some ⟨0, ty, 1, [c]⟩) (hc : Froz H b c (ilS xs)) : Froz H b (.nm t 0 0 1) (ilSS [xs]) := by
  refine .nm t 0 0 1 _ [ilS xs] hb ht rfl rfl ?_
  intro j c1 c2 g1 g2
  cases j with
  | zero => simp at g1 g2; subst g1; subst g2; exact hc
  | succ j => simp at g2

theorem foldl_max (lam : Int) : ∀ (l : List Int) (a : Int), (lam < l.foldl (fun m x => if m < x then x else m) a ↔ lam < a ∨ l.any (fun c => decide (lam < c)) = true)
  | [], a => by simp
  | x :: l, a => by
    rw [List.foldl_cons, foldl_max lam l]
    simp only [List.any_cons, Bool.or_eq_true, decide_eq_true_eq]
    split
    · constructor
      · rintro (h | h)
        · exact .inr (.inl h)
        · exact .inr (.inr h)
      · rintro (h | h | h)
        · exact .inl (by omega)
        · exact .inl h
        · exact .inr h
    · constructor
      · rintro (h | h)
        · exact .inl h
        · exact .inr (.inr h)
      · rintro (h | h | h)
        · exact .inl h
        · exact .inl (by omega)
        · exact .inr h

theorem slicesMax_fn (xs : List Int) (hne : xs ≠ []) : ∃ m : Int, PFn Try.prog f_slices_Max_Lint64_int64 [ilS xs] (I m) ∧ ∀ lam : Int, (lam < m ↔ xs.any (fun c => decide (lam < c)) = true) := by
  obtain ⟨y, ys, rfl⟩ : ∃ y ys, xs = y :: ys := by cases xs with | nil => exact absurd rfl hne | cons y ys => exact ⟨y, ys, rfl⟩
  refine ⟨ys.foldl (fun m x => if m < x then x else m) y, ?_, ?_⟩
  · intro H; refine ACalls.introB s_slices_Max_Lint64_int64 (by simp) ?_; intro hB hA; unfold c_slices_Max_Lint64_int64; simp (config := { maxSteps := 1000000 }) (disch := (first | omega | (simp only [go_sem]; try omega))) only [go_sem, ↓GSplit_t, ↓GSplit_f, ↓GSplit_tf, ↓GSplit_ft, Nat.reduceAdd, Nat.reduceEqDiff, Nat.reduceLeDiff, Nat.reduceMul, Nat.reduceLT, reduceIte, Int.reduceToNat, bne_self_eq_false, beq_self_eq_true, w64_id, cast_succ, Bool.false_eq_true, Bool.and_true, Bool.true_and, Bool.and_false, Bool.false_and, Bool.not_not]
    have hl : (y :: ys).length = ys.length + 1 := rfl
    repeat (first | (with_reducible refine SW.seq ?_) | (with_reducible refine SW.block ?_) | (with_reducible refine SW.rowC ?_) | (with_reducible refine SW.skip ?_) | (with_reducible refine SW.exit ?_) | (with_reducible intro _) | (with_reducible refine And.intro (by omega) ?_) | (simp (config := { maxSteps := 1000000 }) (disch := (first | omega | (simp only [go_sem]; try omega))) only [go_sem, ↓GSplit_t, ↓GSplit_f, ↓GSplit_tf, ↓GSplit_ft, Nat.reduceAdd, Nat.reduceEqDiff, Nat.reduceLeDiff, Nat.reduceMul, Nat.reduceLT, reduceIte, Int.reduceToNat, bne_self_eq_false, beq_self_eq_true, w64_id, cast_succ, Bool.false_eq_true, Bool.and_true, Bool.true_and, Bool.and_false, Bool.false_and, Bool.not_not]))
    (first | refine SW.condD rfl (fun h => ?_) (fun h => ?_) | refine SW.condN rfl (fun h => ?_) (fun h => ?_) | refine SW.condNB rfl (fun h => ?_) (fun h => ?_) | refine SW.condB rfl (fun h => ?_) (fun h => ?_))
    · exfalso; omega
    repeat (first | (with_reducible refine SW.seq ?_) | (with_reducible refine SW.block ?_) | (with_reducible refine SW.rowC ?_) | (with_reducible refine SW.skip ?_) | (with_reducible refine SW.exit ?_) | (with_reducible intro _) | (with_reducible refine And.intro (by omega) ?_) | (simp (config := { maxSteps := 1000000 }) (disch := (first | omega | (simp only [go_sem]; try omega))) only [go_sem, ↓GSplit_t, ↓GSplit_f, ↓GSplit_tf, ↓GSplit_ft, Nat.reduceAdd, Nat.reduceEqDiff, Nat.reduceLeDiff, Nat.reduceMul, Nat.reduceLT, reduceIte, Int.reduceToNat, bne_self_eq_false, beq_self_eq_true, w64_id, cast_succ, Bool.false_eq_true, Bool.and_true, Bool.true_and, Bool.and_false, Bool.false_and, Bool.not_not, List.getD_cons_zero]))
    refine SW.loopE (fun E0 H0 q E' H' => ∃ (pre post : List Int), ys = pre ++ post ∧ q = 0 + post.length ∧ E' = aput (aput E0 3 (I (pre.foldl (fun m x => if m < x then x else m) y))) 4 (I ((pre.length + 1 : Nat) : Int)) ∧ H' = H0) (0 + ys.length) ⟨[], ys, rfl, rfl, rfl, rfl⟩ ?_
    rintro q E' H' ⟨pre, post, hp, rfl, rfl, rfl⟩
    simp (config := { maxSteps := 1000000 }) (disch := (first | omega | (simp only [go_sem]; try omega))) only [go_sem, ↓GSplit_t, ↓GSplit_f, ↓GSplit_tf, ↓GSplit_ft, Nat.reduceAdd, Nat.reduceEqDiff, Nat.reduceLeDiff, Nat.reduceMul, Nat.reduceLT, reduceIte, Int.reduceToNat, bne_self_eq_false, beq_self_eq_true, w64_id, cast_succ, Bool.false_eq_true, Bool.and_true, Bool.true_and, Bool.and_false, Bool.false_and, Bool.not_not]
    repeat (first | (with_reducible refine SW.seq ?_) | (with_reducible refine SW.block ?_) | (with_reducible refine SW.rowC ?_) | (with_reducible refine SW.skip ?_) | (with_reducible refine SW.exit ?_) | (with_reducible intro _) | (with_reducible refine And.intro (by omega) ?_) | (simp (config := { maxSteps := 1000000 }) (disch := (first | omega | (simp only [go_sem]; try omega))) only [go_sem, ↓GSplit_t, ↓GSplit_f, ↓GSplit_tf, ↓GSplit_ft, Nat.reduceAdd, Nat.reduceEqDiff, Nat.reduceLeDiff, Nat.reduceMul, Nat.reduceLT, reduceIte, Int.reduceToNat, bne_self_eq_false, beq_self_eq_true, w64_id, cast_succ, Bool.false_eq_true, Bool.and_true, Bool.true_and, Bool.and_false, Bool.false_and, Bool.not_not]))
    (first | refine SW.condD rfl (fun h2 => ?_) (fun h2 => ?_) | refine SW.condN rfl (fun h2 => ?_) (fun h2 => ?_) | refine SW.condNB rfl (fun h2 => ?_) (fun h2 => ?_) | refine SW.condB rfl (fun h2 => ?_) (fun h2 => ?_))
    · cases post with
      | nil => exfalso; simp at hp; subst hp; omega
      | cons x post =>
        have hg : (y :: ys).getD (pre.length + 1) 0 = x := by rw [List.getD_cons_succ, hp]; simp
        have hg' : ys[pre.length]?.getD 0 = x := by rw [hp]; simp
        repeat (first | (with_reducible refine SW.seq ?_) | (with_reducible refine SW.block ?_) | (with_reducible refine SW.rowC ?_) | (with_reducible refine SW.skip ?_) | (with_reducible refine SW.exit ?_) | (with_reducible intro _) | (with_reducible refine And.intro (by omega) ?_) | (simp (config := { maxSteps := 1000000 }) (disch := (first | omega | (simp only [go_sem]; try omega))) only [go_sem, ↓GSplit_t, ↓GSplit_f, ↓GSplit_tf, ↓GSplit_ft, Nat.reduceAdd, Nat.reduceEqDiff, Nat.reduceLeDiff, Nat.reduceMul, Nat.reduceLT, reduceIte, Int.reduceToNat, bne_self_eq_false, beq_self_eq_true, w64_id, cast_succ, Bool.false_eq_true, Bool.and_true, Bool.true_and, Bool.and_false, Bool.false_and, Bool.not_not, hg]))
        refine SLoop.next post.length (by simp) ⟨pre ++ [x], post, by simp [hp], rfl, ?_, rfl⟩
        simp [go_sem, List.foldl_append, hg']
    · have : post = [] := by cases post with
        | nil => rfl
        | cons x post => exfalso; rw [hp] at h2 hl; simp at h2 hl; omega
      subst this
      rw [List.append_nil] at hp
      subst hp
      repeat (first | (with_reducible refine SW.seq ?_) | (with_reducible refine SW.block ?_) | (with_reducible refine SW.rowC ?_) | (with_reducible refine SW.skip ?_) | (with_reducible refine SW.exit ?_) | (with_reducible intro _) | (with_reducible refine And.intro (by omega) ?_) | (simp (config := { maxSteps := 1000000 }) (disch := (first | omega | (simp only [go_sem]; try omega))) only [go_sem, ↓GSplit_t, ↓GSplit_f, ↓GSplit_tf, ↓GSplit_ft, Nat.reduceAdd, Nat.reduceEqDiff, Nat.reduceLeDiff, Nat.reduceMul, Nat.reduceLT, reduceIte, Int.reduceToNat, bne_self_eq_false, beq_self_eq_true, w64_id, cast_succ, Bool.false_eq_true, Bool.and_true, Bool.true_and, Bool.and_false, Bool.false_and, Bool.not_not]))
      refine SW.ret ?_; (try simp only [go_sem]); (first | refine FunPost.one ?_ | refine FunPost.two ?_ | refine FunPost.three ?_); (try simp (config := { maxSteps := 1000000 }) (disch := (first | omega | (simp only [go_sem]; try omega))) only [go_sem, ↓GSplit_t, ↓GSplit_f, ↓GSplit_tf, ↓GSplit_ft, Nat.reduceAdd, Nat.reduceEqDiff, Nat.reduceLeDiff, Nat.reduceMul, Nat.reduceLT, reduceIte, Int.reduceToNat, bne_self_eq_false, beq_self_eq_true, w64_id, cast_succ, Bool.false_eq_true, Bool.and_true, Bool.true_and, Bool.and_false, Bool.false_and, Bool.not_not]); (first | (with_reducible refine GR.drop ?_ ?_; (simp only [and_self, and_true, true_and, implies_true, Bel_lit, Bel_I, Bel_Bv, Bel_nil, Bel_junk, Bel_nm, Bel_pc, Bel_il, Bel_agg, Bel_tup, Bel_fn, Bel_el, all_mapI, all_mapB, all_mapS, all_nilB, all_consB, EB_nil, EB_cons, BB_nil, BB_cons, Bel_ilS, Bel_ilSS, Bel_ilB, List.getElem?_cons_zero, List.take_succ_cons, List.take_zero, keep_nil, keep_cons])) | refine GR.of ?_); refine ⟨?_, rfl⟩; (try with_reducible rfl)
  · intro lam
    rw [foldl_max, List.any_cons, Bool.or_eq_true, decide_eq_true_eq]

/-- More than lam times one and the same difference. -/
def badT (n : Nat) (lam : Int) (set : List Int) : Bool := (counts n (dl n set set)).any fun c => decide (lam < c)
def xsFrom (a n : Int) : List Int := (List.range (n - a).toNat).map fun (i : Nat) => a + i
theorem xsFrom_cons {a n : Int} (h : a < n) : xsFrom a n = a :: xsFrom (a + 1) n := by
  unfold xsFrom
  rw [show (n - a).toNat = (n - (a + 1)).toNat + 1 by omega, List.range_succ_eq_map]
  simp only [List.map_cons, List.map_map]
  congr 1
  · simp
  · apply List.map_congr_left
    intro i _
    simp; omega
theorem xsFrom_nil {a n : Int} (h : n ≤ a) : xsFrom a n = [] := by
  unfold xsFrom; rw [show (n - a).toNat = 0 by omega]; rfl

/-- The search: 0: none; 1: this one; 2: the budget is spent; and what is left of it. -/
def goM (v : List Int → Nat → Nat × List Int × Nat) (set : List Int) : List Int → Nat → Nat × List Int × Nat
  | [], l => (0, [], l)
  | x :: xs, l => if (v (set ++ [x]) l).1 = 0 then goM v set xs (v (set ++ [x]) l).2.2 else v (set ++ [x]) l
def lastI (set : List Int) : Int := set.getD (set.length - 1) 0
def visitM (n : Nat) (k lam : Int) : Nat → List Int → Nat → Nat × List Int × Nat
  | 0, _, l => (0, [], l)
  | d + 1, set, l => if l = 0 then (2, [], 0) else if badT n lam set then (0, [], l - 1) else if (set.length : Int) = k then (1, set, l - 1) else goM (visitM n k lam d) set (xsFrom (lastI set + 1) n) (l - 1)
theorem goM_code {v : List Int → Nat → Nat × List Int × Nat} {set : List Int} (hv : ∀ s l, (v s l).1 ≤ 2) : ∀ xs l, (goM v set xs l).1 ≤ 2
  | [], l => by simp [goM]
  | x :: xs, l => by
    rw [goM]; split
    · exact goM_code hv xs _
    · exact hv _ _
theorem visitM_code (n : Nat) (k lam : Int) : ∀ (d : Nat) (s : List Int) (l : Nat), (visitM n k lam d s l).1 ≤ 2
  | 0, s, l => by simp [visitM]
  | d + 1, s, l => by
    rw [visitM]
    split
    · simp
    · split
      · simp
      · split
        · simp
        · exact goM_code (visitM_code n k lam d) _ _
theorem goM_left {v : List Int → Nat → Nat × List Int × Nat} {set : List Int} (hv : ∀ s l, (v s l).2.2 ≤ l ∧ ((v s l).1 = 2 → (v s l).2.2 = 0)) : ∀ xs l, (goM v set xs l).2.2 ≤ l ∧ ((goM v set xs l).1 = 2 → (goM v set xs l).2.2 = 0)
  | [], l => by simp [goM]
  | x :: xs, l => by
    rw [goM]; split
    · have := goM_left (set := set) hv xs (v (set ++ [x]) l).2.2
      have h2 := (hv (set ++ [x]) l).1
      exact ⟨by omega, this.2⟩
    · exact hv _ _
theorem visitM_left (n : Nat) (k lam : Int) : ∀ (d : Nat) (s : List Int) (l : Nat), (visitM n k lam d s l).2.2 ≤ l ∧ ((visitM n k lam d s l).1 = 2 → (visitM n k lam d s l).2.2 = 0)
  | 0, s, l => by simp [visitM]
  | d + 1, s, l => by
    rw [visitM]
    split
    · simp
    · split
      · simp
      · split
        · simp
        · have := goM_left (visitM_left n k lam d) (set := s) (xsFrom (lastI s + 1) n) (l - 1)
          exact ⟨by omega, this.2⟩

abbrev tyF : Nat := 100
def fCells (n : Nat) (k lam : Int) (l : Nat) (sp : Bool) : Blk := ⟨0, tyF, 1, [I l, Bv sp, I n, I k, I lam]⟩

theorem node_ok (H : List Blk) (p ty : Nat) (l : Nat) (sp : Bool) (rest : List AV) (hl : l ≤ 4611686018427387904) (hp : H[p]? = some ⟨0, ty, 1, I l :: Bv sp :: rest⟩) :
    ACalls Try.prog f_impl_counter_node [.pc p 0 0] H (fun r H' => r = Bv (decide (l ≠ 0)) ∧ H' = H.set p ⟨0, ty, 1, I ((l - 1 : Nat) : Int) :: Bv (sp || decide (l = 0)) :: rest⟩) := by
  have hlt := (List.getElem?_eq_some_iff.1 hp).1
  refine ACalls.introB s_impl_counter_node (by simp) ?_; intro hB hA; unfold c_impl_counter_node; simp (config := { maxSteps := 1000000 }) (disch := (first | omega | (simp only [go_sem]; try omega))) only [go_sem, ↓GSplit_t, ↓GSplit_f, ↓GSplit_tf, ↓GSplit_ft, Nat.reduceAdd, Nat.reduceEqDiff, Nat.reduceLeDiff, Nat.reduceMul, Nat.reduceLT, reduceIte, Int.reduceToNat, bne_self_eq_false, beq_self_eq_true, w64_id, cast_succ, Bool.false_eq_true, Bool.and_true, Bool.true_and, Bool.and_false, Bool.false_and, Bool.not_not]
  repeat (first | (with_reducible refine SW.seq ?_) | (with_reducible refine SW.block ?_) | (with_reducible refine SW.rowC ?_) | (with_reducible refine SW.skip ?_) | (with_reducible refine SW.exit ?_) | (with_reducible intro _) | (with_reducible refine And.intro (by omega) ?_) | (simp (config := { maxSteps := 1000000 }) (disch := (first | omega | (simp only [go_sem]; try omega))) only [go_sem, ↓GSplit_t, ↓GSplit_f, ↓GSplit_tf, ↓GSplit_ft, Nat.reduceAdd, Nat.reduceEqDiff, Nat.reduceLeDiff, Nat.reduceMul, Nat.reduceLT, reduceIte, Int.reduceToNat, bne_self_eq_false, beq_self_eq_true, w64_id, cast_succ, Bool.false_eq_true, Bool.and_true, Bool.true_and, Bool.and_false, Bool.false_and, Bool.not_not, pc_ld hp, pc_alive hp]))
  (first | refine SW.condD rfl (fun h => ?_) (fun h => ?_) | refine SW.condN rfl (fun h => ?_) (fun h => ?_) | refine SW.condNB rfl (fun h => ?_) (fun h => ?_) | refine SW.condB rfl (fun h => ?_) (fun h => ?_))
  · have : l = 0 := by omega
    subst this
    repeat (first | (with_reducible refine SW.seq ?_) | (with_reducible refine SW.block ?_) | (with_reducible refine SW.rowC ?_) | (with_reducible refine SW.skip ?_) | (with_reducible refine SW.exit ?_) | (with_reducible intro _) | (with_reducible refine And.intro (by omega) ?_) | (simp (config := { maxSteps := 1000000 }) (disch := (first | omega | (simp only [go_sem]; try omega))) only [go_sem, ↓GSplit_t, ↓GSplit_f, ↓GSplit_tf, ↓GSplit_ft, Nat.reduceAdd, Nat.reduceEqDiff, Nat.reduceLeDiff, Nat.reduceMul, Nat.reduceLT, reduceIte, Int.reduceToNat, bne_self_eq_false, beq_self_eq_true, w64_id, cast_succ, Bool.false_eq_true, Bool.and_true, Bool.true_and, Bool.and_false, Bool.false_and, Bool.not_not, pc_ld hp, pc_alive hp]))
    rw [pc_st hp (by simp)]
    repeat (first | (with_reducible refine SW.seq ?_) | (with_reducible refine SW.block ?_) | (with_reducible refine SW.rowC ?_) | (with_reducible refine SW.skip ?_) | (with_reducible refine SW.exit ?_) | (with_reducible intro _) | (with_reducible refine And.intro (by omega) ?_) | (simp (config := { maxSteps := 1000000 }) (disch := (first | omega | (simp only [go_sem]; try omega))) only [go_sem, ↓GSplit_t, ↓GSplit_f, ↓GSplit_tf, ↓GSplit_ft, Nat.reduceAdd, Nat.reduceEqDiff, Nat.reduceLeDiff, Nat.reduceMul, Nat.reduceLT, reduceIte, Int.reduceToNat, bne_self_eq_false, beq_self_eq_true, w64_id, cast_succ, Bool.false_eq_true, Bool.and_true, Bool.true_and, Bool.and_false, Bool.false_and, Bool.not_not]))
    refine SW.ret ?_; (try simp only [go_sem]); (first | refine FunPost.one ?_ | refine FunPost.two ?_ | refine FunPost.three ?_); (try simp (config := { maxSteps := 1000000 }) (disch := (first | omega | (simp only [go_sem]; try omega))) only [go_sem, ↓GSplit_t, ↓GSplit_f, ↓GSplit_tf, ↓GSplit_ft, Nat.reduceAdd, Nat.reduceEqDiff, Nat.reduceLeDiff, Nat.reduceMul, Nat.reduceLT, reduceIte, Int.reduceToNat, bne_self_eq_false, beq_self_eq_true, w64_id, cast_succ, Bool.false_eq_true, Bool.and_true, Bool.true_and, Bool.and_false, Bool.false_and, Bool.not_not])
    refine GR.of ⟨rfl, ?_⟩
    simp
  · repeat (first | (with_reducible refine SW.seq ?_) | (with_reducible refine SW.block ?_) | (with_reducible refine SW.rowC ?_) | (with_reducible refine SW.skip ?_) | (with_reducible refine SW.exit ?_) | (with_reducible intro _) | (with_reducible refine And.intro (by omega) ?_) | (simp (config := { maxSteps := 1000000 }) (disch := (first | omega | (simp only [go_sem]; try omega))) only [go_sem, ↓GSplit_t, ↓GSplit_f, ↓GSplit_tf, ↓GSplit_ft, Nat.reduceAdd, Nat.reduceEqDiff, Nat.reduceLeDiff, Nat.reduceMul, Nat.reduceLT, reduceIte, Int.reduceToNat, bne_self_eq_false, beq_self_eq_true, w64_id, cast_succ, Bool.false_eq_true, Bool.and_true, Bool.true_and, Bool.and_false, Bool.false_and, Bool.not_not, pc_ld hp, pc_alive hp]))
    rw [pc_st hp (by simp)]
    repeat (first | (with_reducible refine SW.seq ?_) | (with_reducible refine SW.block ?_) | (with_reducible refine SW.rowC ?_) | (with_reducible refine SW.skip ?_) | (with_reducible refine SW.exit ?_) | (with_reducible intro _) | (with_reducible refine And.intro (by omega) ?_) | (simp (config := { maxSteps := 1000000 }) (disch := (first | omega | (simp only [go_sem]; try omega))) only [go_sem, ↓GSplit_t, ↓GSplit_f, ↓GSplit_tf, ↓GSplit_ft, Nat.reduceAdd, Nat.reduceEqDiff, Nat.reduceLeDiff, Nat.reduceMul, Nat.reduceLT, reduceIte, Int.reduceToNat, bne_self_eq_false, beq_self_eq_true, w64_id, cast_succ, Bool.false_eq_true, Bool.and_true, Bool.true_and, Bool.and_false, Bool.false_and, Bool.not_not]))
    refine SW.ret ?_; (try simp only [go_sem]); (first | refine FunPost.one ?_ | refine FunPost.two ?_ | refine FunPost.three ?_); (try simp (config := { maxSteps := 1000000 }) (disch := (first | omega | (simp only [go_sem]; try omega))) only [go_sem, ↓GSplit_t, ↓GSplit_f, ↓GSplit_tf, ↓GSplit_ft, Nat.reduceAdd, Nat.reduceEqDiff, Nat.reduceLeDiff, Nat.reduceMul, Nat.reduceLT, reduceIte, Int.reduceToNat, bne_self_eq_false, beq_self_eq_true, w64_id, cast_succ, Bool.false_eq_true, Bool.and_true, Bool.true_and, Bool.and_false, Bool.false_and, Bool.not_not])
    refine GR.of ⟨?_, ?_⟩
    · rw [decide_eq_true (by omega)]
    · have e1 : ((l : Int) - 1) = ((l - 1 : Nat) : Int) := by omega
      rw [e1]
      simp [show l ≠ 0 by omega]

theorem finder_spent (n : Nat) (k lam : Int) (H : List Blk) (p : Nat) (a : AV) (l : Nat) (hp : H[p]? = some (fCells n k lam l true)) : ACalls Try.prog f_impl_finder_search [.pc p 0 0, a] H (fun r H' => r = .tup [nilS, Bv false] ∧ H' = H) := by
  unfold fCells at hp
  refine ACalls.introB s_impl_finder_search (by simp) ?_; intro hB hA; unfold c_impl_finder_search; simp (config := { maxSteps := 1000000 }) (disch := (first | omega | (simp only [go_sem]; try omega))) only [go_sem, ↓GSplit_t, ↓GSplit_f, ↓GSplit_tf, ↓GSplit_ft, Nat.reduceAdd, Nat.reduceEqDiff, Nat.reduceLeDiff, Nat.reduceMul, Nat.reduceLT, reduceIte, Int.reduceToNat, bne_self_eq_false, beq_self_eq_true, w64_id, cast_succ, Bool.false_eq_true, Bool.and_true, Bool.true_and, Bool.and_false, Bool.false_and, Bool.not_not]
  repeat (first | (with_reducible refine SW.seq ?_) | (with_reducible refine SW.block ?_) | (with_reducible refine SW.rowC ?_) | (with_reducible refine SW.skip ?_) | (with_reducible refine SW.exit ?_) | (with_reducible intro _) | (with_reducible refine And.intro (by omega) ?_) | (simp (config := { maxSteps := 1000000 }) (disch := (first | omega | (simp only [go_sem]; try omega))) only [go_sem, ↓GSplit_t, ↓GSplit_f, ↓GSplit_tf, ↓GSplit_ft, Nat.reduceAdd, Nat.reduceEqDiff, Nat.reduceLeDiff, Nat.reduceMul, Nat.reduceLT, reduceIte, Int.reduceToNat, bne_self_eq_false, beq_self_eq_true, w64_id, cast_succ, Bool.false_eq_true, Bool.and_true, Bool.true_and, Bool.and_false, Bool.false_and, Bool.not_not, pc_ld hp, pc_alive hp]))
  refine SW.condT rfl ?_
  repeat (first | (with_reducible refine SW.seq ?_) | (with_reducible refine SW.block ?_) | (with_reducible refine SW.rowC ?_) | (with_reducible refine SW.skip ?_) | (with_reducible refine SW.exit ?_) | (with_reducible intro _) | (with_reducible refine And.intro (by omega) ?_) | (simp (config := { maxSteps := 1000000 }) (disch := (first | omega | (simp only [go_sem]; try omega))) only [go_sem, ↓GSplit_t, ↓GSplit_f, ↓GSplit_tf, ↓GSplit_ft, Nat.reduceAdd, Nat.reduceEqDiff, Nat.reduceLeDiff, Nat.reduceMul, Nat.reduceLT, reduceIte, Int.reduceToNat, bne_self_eq_false, beq_self_eq_true, w64_id, cast_succ, Bool.false_eq_true, Bool.and_true, Bool.true_and, Bool.and_false, Bool.false_and, Bool.not_not]))
  refine SW.ret ?_; (try simp only [go_sem]); (first | refine FunPost.one ?_ | refine FunPost.two ?_ | refine FunPost.three ?_); (try simp (config := { maxSteps := 1000000 }) (disch := (first | omega | (simp only [go_sem]; try omega))) only [go_sem, ↓GSplit_t, ↓GSplit_f, ↓GSplit_tf, ↓GSplit_ft, Nat.reduceAdd, Nat.reduceEqDiff, Nat.reduceLeDiff, Nat.reduceMul, Nat.reduceLT, reduceIte, Int.reduceToNat, bne_self_eq_false, beq_self_eq_true, w64_id, cast_succ, Bool.false_eq_true, Bool.and_true, Bool.true_and, Bool.and_false, Bool.false_and, Bool.not_not])
  exact GR.of ⟨rfl, rfl⟩

theorem _root_.Go.Av.GR.dropH {H0 H1 ext : List Blk} {R : AV → List Blk → Prop} {r : AV} (h0 : H0.length ≤ H1.length) (hB : HB H1) (hb : Bel H1.length r) (h : R r H1) : GR H0 R r (H1 ++ ext) := by
  intro B W0 F0 m0 w0 F m w v hs0 hF hm hr hs
  have h1 := hs.take (k := H1.length) (by rw [List.take_left]; exact hB)
  rw [List.take_left] at h1
  exact ⟨F, m.take H1.length, r, H1, hF, hm.take (by rw [hs0.len]; exact h0), hr.take hb, h1, h⟩
theorem _root_.Go.Av.HB.set {H : List Blk} (h : HB H) (p : Nat) {b : Blk} (hb : ∀ c ∈ b.cells, Bel H.length c) : HB (H.set p b) := by
  intro b' hb' c hc
  rw [List.length_set]
  rcases List.mem_or_eq_of_mem_set hb' with h2 | rfl
  · exact h b' h2 c hc
  · exact hb c hc

def FPost (n : Nat) (k lam : Int) (p : Nat) (H : List Blk) (res : Nat × List Int × Nat) (rn : Nat) (r : AV) (H' : List Blk) : Prop :=
  if res.1 = 1 then ∃ v' r', r = .tup [.nm r' v' 0 res.2.1.length, Bv true] ∧ H'[r']? = some ⟨v', 2, 1, res.2.1.map I⟩ ∧ (r' = rn ∨ H.length ≤ r') ∧ H.length ≤ H'.length ∧ ∀ j, j ≠ p → j < H.length → H'[j]? = H[j]?
  else r = .tup [nilS, Bv false] ∧ H' = H.set p (fCells n k lam res.2.2 (decide (res.1 = 2)))

theorem asc_snoc : ∀ {l : List Int} {lo hi x : Int}, asc lo hi l = true → (∀ y ∈ l, y < x) → lo ≤ x → x ≤ hi → asc lo hi (l ++ [x]) = true
  | [], lo, hi, x, _, _, h1, h2 => by simp [asc, h1, h2]
  | y :: l, lo, hi, x, h, hy, h1, h2 => by
    simp only [asc, Bool.and_eq_true, decide_eq_true_eq, List.cons_append] at h ⊢
    exact ⟨h.1, asc_snoc h.2 (fun z hz => hy z (by simp [hz])) (by have := hy y (by simp); omega) h2⟩
theorem asc_last : ∀ {l : List Int} {lo hi : Int}, asc lo hi l = true → ∀ y ∈ l, y ≤ lastI l
  | [], _, _, _, y, h => by simp at h
  | [x], _, _, _, y, h => by simp at h; subst h; simp [lastI]
  | x :: z :: l, lo, hi, h, y, hy => by
    have h2 : asc lo hi (x :: z :: l) = true := h
    simp only [asc, Bool.and_eq_true, decide_eq_true_eq] at h
    have ih := asc_last (l := z :: l) (lo := x + 1) (hi := hi) (by simp only [asc, Bool.and_eq_true, decide_eq_true_eq]; exact h.2)
    have e : lastI (x :: z :: l) = lastI (z :: l) := by simp [lastI]
    rw [e]
    rcases List.mem_cons.1 hy with rfl | hy
    · have := ih z (by simp); omega
    · exact ih y hy
theorem lastI_snoc (l : List Int) (x : Int) : lastI (l ++ [x]) = x := by simp [lastI]

theorem get_appB2 {H : List Blk} {p : Nat} {b : Blk} (h : H[p]? = some b) (ext : List Blk) : (H ++ ext)[p]? = some b := by
  rw [List.getElem?_append_left (List.getElem?_eq_some_iff.1 h).1]; exact h

theorem finder_ok (n : Nat) (k lam : Int) (hn : 2 ≤ n ∧ n ≤ 32) : ∀ (d : Nat) (H : List Blk) (p r ver : Nat) (set : List Int) (l : Nat), H[p]? = some (fCells n k lam l false) → H[r]? = some ⟨ver, 2, 1, set.map I⟩ → r ≠ p → set ≠ [] → asc 0 (n - 1) set = true →
    (n - lastI set).toNat ≤ d → l ≤ 1000000000000 → ACalls Try.prog f_impl_finder_search [.pc p 0 0, .nm r ver 0 set.length] H (FPost n k lam p H (visitM n k lam d set l) r) := by
  intro d
  induction d with
  | zero =>
    intro H p r ver set l hp hr hrp hne ha hd
    exfalso
    have hm := asc_mem ha (lastI set) (by
      unfold lastI
      have : 0 < set.length := List.length_pos_iff.2 hne
      simp [List.getElem?_eq_getElem (show set.length - 1 < set.length by omega)])
    omega
  | succ d ih =>
    intro H p r ver set l hp hr hrp hne ha hd hl
    have hm := asc_mem ha
    have hpos : 0 < set.length := List.length_pos_iff.2 hne
    have hlen : set.length ≤ 32 := by rcases asc_len ha with h | h <;> simp_all; omega
    have hlast := hm (lastI set) (by unfold lastI; simp [List.getElem?_eq_getElem (show set.length - 1 < set.length by omega)])
    have hplt := (List.getElem?_eq_some_iff.1 hp).1
    have hrlt := (List.getElem?_eq_some_iff.1 hr).1
    have hp0 := hp
    unfold fCells at hp
    refine ACalls.introB s_impl_finder_search (by simp) ?_; intro hB hA; unfold c_impl_finder_search; simp (config := { maxSteps := 1000000 }) (disch := (first | omega | (simp only [go_sem]; try omega))) only [go_sem, ↓GSplit_t, ↓GSplit_f, ↓GSplit_tf, ↓GSplit_ft, Nat.reduceAdd, Nat.reduceEqDiff, Nat.reduceLeDiff, Nat.reduceMul, Nat.reduceLT, reduceIte, Int.reduceToNat, bne_self_eq_false, beq_self_eq_true, w64_id, cast_succ, Bool.false_eq_true, Bool.and_true, Bool.true_and, Bool.and_false, Bool.false_and, Bool.not_not]
    repeat (first | (with_reducible refine SW.seq ?_) | (with_reducible refine SW.block ?_) | (with_reducible refine SW.rowC ?_) | (with_reducible refine SW.skip ?_) | (with_reducible refine SW.exit ?_) | (with_reducible intro _) | (with_reducible refine And.intro (by omega) ?_) | (simp (config := { maxSteps := 1000000 }) (disch := (first | omega | (simp only [go_sem]; try omega))) only [go_sem, ↓GSplit_t, ↓GSplit_f, ↓GSplit_tf, ↓GSplit_ft, Nat.reduceAdd, Nat.reduceEqDiff, Nat.reduceLeDiff, Nat.reduceMul, Nat.reduceLT, reduceIte, Int.reduceToNat, bne_self_eq_false, beq_self_eq_true, w64_id, cast_succ, Bool.false_eq_true, Bool.and_true, Bool.true_and, Bool.and_false, Bool.false_and, Bool.not_not, pc_ld hp, pc_alive hp]))
    refine (node_ok H p tyF l false _ (by omega) hp).mono ?_
    rintro r1 H1 ⟨rfl, hH1⟩
    have hp1 : H1[p]? = some (fCells n k lam (l - 1) (decide (l = 0))) := by rw [hH1, List.getElem?_set_self hplt]; simp [fCells]
    have hH1' : H1 = H.set p (fCells n k lam (l - 1) (decide (l = 0))) := by rw [hH1]; simp [fCells]
    have hB1 : HB H1 := by rw [hH1']; exact hB.set p (by unfold fCells; simp only [List.forall_mem_cons]; (simp only [go_sem, Nat.reduceAdd, Nat.reduceEqDiff, reduceIte, and_self, and_true, true_and, implies_true, Bel_lit, Bel_I, Bel_Bv, Bel_nil, Bel_junk, Bel_nm, Bel_pc, Bel_il, Bel_agg, Bel_tup, Bel_fn, Bel_el, all_mapI, all_mapB, all_mapS, all_nilB, all_consB, EB_nil, EB_cons, BB_nil, BB_cons, Bel_ilS, Bel_ilSS, Bel_ilB, List.getElem?_cons_zero, List.take_succ_cons, List.take_zero, keep_nil, keep_cons, and_true, true_and, List.not_mem_nil, false_implies]; try omega))
    have hl1 : H1.length = H.length := by rw [hH1]; simp
    have hr1 : H1[r]? = some ⟨ver, 2, 1, set.map I⟩ := by rw [hH1', List.getElem?_set_ne (Ne.symm hrp)]; exact hr
    rw [visitM]
    repeat (first | (with_reducible refine SW.seq ?_) | (with_reducible refine SW.block ?_) | (with_reducible refine SW.rowC ?_) | (with_reducible refine SW.skip ?_) | (with_reducible refine SW.exit ?_) | (with_reducible intro _) | (with_reducible refine And.intro (by omega) ?_) | (simp (config := { maxSteps := 1000000 }) (disch := (first | omega | (simp only [go_sem]; try omega))) only [go_sem, ↓GSplit_t, ↓GSplit_f, ↓GSplit_tf, ↓GSplit_ft, Nat.reduceAdd, Nat.reduceEqDiff, Nat.reduceLeDiff, Nat.reduceMul, Nat.reduceLT, reduceIte, Int.reduceToNat, bne_self_eq_false, beq_self_eq_true, w64_id, cast_succ, Bool.false_eq_true, Bool.and_true, Bool.true_and, Bool.and_false, Bool.false_and, Bool.not_not]))
    by_cases hl0 : l = 0
    · subst hl0
      refine SW.condT (by simp [go_sem]) ?_
      repeat (first | (with_reducible refine SW.seq ?_) | (with_reducible refine SW.block ?_) | (with_reducible refine SW.rowC ?_) | (with_reducible refine SW.skip ?_) | (with_reducible refine SW.exit ?_) | (with_reducible intro _) | (with_reducible refine And.intro (by omega) ?_) | (simp (config := { maxSteps := 1000000 }) (disch := (first | omega | (simp only [go_sem]; try omega))) only [go_sem, ↓GSplit_t, ↓GSplit_f, ↓GSplit_tf, ↓GSplit_ft, Nat.reduceAdd, Nat.reduceEqDiff, Nat.reduceLeDiff, Nat.reduceMul, Nat.reduceLT, reduceIte, Int.reduceToNat, bne_self_eq_false, beq_self_eq_true, w64_id, cast_succ, Bool.false_eq_true, Bool.and_true, Bool.true_and, Bool.and_false, Bool.false_and, Bool.not_not]))
      refine SW.ret ?_; (try simp only [go_sem]); (first | refine FunPost.one ?_ | refine FunPost.two ?_ | refine FunPost.three ?_); (try simp (config := { maxSteps := 1000000 }) (disch := (first | omega | (simp only [go_sem]; try omega))) only [go_sem, ↓GSplit_t, ↓GSplit_f, ↓GSplit_tf, ↓GSplit_ft, Nat.reduceAdd, Nat.reduceEqDiff, Nat.reduceLeDiff, Nat.reduceMul, Nat.reduceLT, reduceIte, Int.reduceToNat, bne_self_eq_false, beq_self_eq_true, w64_id, cast_succ, Bool.false_eq_true, Bool.and_true, Bool.true_and, Bool.and_false, Bool.false_and, Bool.not_not])
      refine GR.of ?_
      (try rw [if_pos rfl])
      unfold FPost
      rw [if_neg (by simp)]
      exact ⟨rfl, hH1'⟩
    refine SW.condF (by simp [go_sem, hl0]) ?_
    rw [if_neg hl0]
    simp only [hl0, decide_false] at hp1 hH1'
    have hp1' := hp1
    unfold fCells at hp1
    have hpt := get_appB2 hp1 [⟨0, 42, 1, [.nm r ver 0 set.length]⟩]
    have hv1 : RdS H1 (.nm r ver 0 set.length) set := view_nm hr1 (by simp)
    have hv := RdS.append hv1 [⟨0, 42, 1, [.nm r ver 0 set.length]⟩]
    obtain ⟨mx, hmx1, hmx2⟩ := slicesMax_fn (counts n (dl n set set)) (by
      intro h; have := counts_length n (dl n set set); rw [h] at this; simp at this; omega)
    have hfz : Froz (H1 ++ [⟨0, 42, 1, [.nm r ver 0 set.length]⟩]) 0 (.nm r ver 0 set.length) (ilS set) := froz_rd (Nat.zero_le _) hv
    have hbad : badT n lam set = true ↔ lam < mx := (hmx2 lam).symm
    repeat (first | (with_reducible refine SW.seq ?_) | (with_reducible refine SW.block ?_) | (with_reducible refine SW.rowC ?_) | (with_reducible refine SW.skip ?_) | (with_reducible refine SW.exit ?_) | (with_reducible intro _) | (with_reducible refine And.intro (by omega) ?_) | (simp (config := { maxSteps := 1000000 }) (disch := (first | omega | (simp only [go_sem]; try omega))) only [go_sem, ↓GSplit_t, ↓GSplit_f, ↓GSplit_tf, ↓GSplit_ft, Nat.reduceAdd, Nat.reduceEqDiff, Nat.reduceLeDiff, Nat.reduceMul, Nat.reduceLT, reduceIte, Int.reduceToNat, bne_self_eq_false, beq_self_eq_true, w64_id, cast_succ, Bool.false_eq_true, Bool.and_true, Bool.true_and, Bool.and_false, Bool.false_and, Bool.not_not, pc_ld hp1, pc_alive hp1]))
    refine QcallW.of ((differenceTable_new n set (by omega) (fun x hx => by have := hm x hx; omega) (by omega)).lendq (.cons (.I _) (.cons (froz_one (Nat.zero_le _) (by simp; rfl) hfz) .nil))) ?_
    repeat (first | (with_reducible refine SW.seq ?_) | (with_reducible refine SW.block ?_) | (with_reducible refine SW.rowC ?_) | (with_reducible refine SW.skip ?_) | (with_reducible refine SW.exit ?_) | (with_reducible refine PFn.use (hmx1) ?_) | (with_reducible refine PFn.useq (hmx1) ?_) | (with_reducible intro _) | (with_reducible refine And.intro (by omega) ?_) | (simp (config := { maxSteps := 1000000 }) (disch := (first | omega | (simp only [go_sem]; try omega))) only [go_sem, ↓GSplit_t, ↓GSplit_f, ↓GSplit_tf, ↓GSplit_ft, Nat.reduceAdd, Nat.reduceEqDiff, Nat.reduceLeDiff, Nat.reduceMul, Nat.reduceLT, reduceIte, Int.reduceToNat, bne_self_eq_false, beq_self_eq_true, w64_id, cast_succ, Bool.false_eq_true, Bool.and_true, Bool.true_and, Bool.and_false, Bool.false_and, Bool.not_not]))
    (first | refine SW.condD rfl (fun h => ?_) (fun h => ?_) | refine SW.condN rfl (fun h => ?_) (fun h => ?_) | refine SW.condNB rfl (fun h => ?_) (fun h => ?_) | refine SW.condB rfl (fun h => ?_) (fun h => ?_))
    · rw [if_pos (hbad.2 h)]
      repeat (first | (with_reducible refine SW.seq ?_) | (with_reducible refine SW.block ?_) | (with_reducible refine SW.rowC ?_) | (with_reducible refine SW.skip ?_) | (with_reducible refine SW.exit ?_) | (with_reducible intro _) | (with_reducible refine And.intro (by omega) ?_) | (simp (config := { maxSteps := 1000000 }) (disch := (first | omega | (simp only [go_sem]; try omega))) only [go_sem, ↓GSplit_t, ↓GSplit_f, ↓GSplit_tf, ↓GSplit_ft, Nat.reduceAdd, Nat.reduceEqDiff, Nat.reduceLeDiff, Nat.reduceMul, Nat.reduceLT, reduceIte, Int.reduceToNat, bne_self_eq_false, beq_self_eq_true, w64_id, cast_succ, Bool.false_eq_true, Bool.and_true, Bool.true_and, Bool.and_false, Bool.false_and, Bool.not_not]))
      refine SW.ret ?_; (try simp only [go_sem]); (first | refine FunPost.one ?_ | refine FunPost.two ?_ | refine FunPost.three ?_); (try simp (config := { maxSteps := 1000000 }) (disch := (first | omega | (simp only [go_sem]; try omega))) only [go_sem, ↓GSplit_t, ↓GSplit_f, ↓GSplit_tf, ↓GSplit_ft, Nat.reduceAdd, Nat.reduceEqDiff, Nat.reduceLeDiff, Nat.reduceMul, Nat.reduceLT, reduceIte, Int.reduceToNat, bne_self_eq_false, beq_self_eq_true, w64_id, cast_succ, Bool.false_eq_true, Bool.and_true, Bool.true_and, Bool.and_false, Bool.false_and, Bool.not_not])
      refine GR.dropH (by omega) hB1 ?_ ?_
      · (simp only [go_sem, Nat.reduceAdd, Nat.reduceEqDiff, reduceIte, and_self, and_true, true_and, implies_true, Bel_lit, Bel_I, Bel_Bv, Bel_nil, Bel_junk, Bel_nm, Bel_pc, Bel_il, Bel_agg, Bel_tup, Bel_fn, Bel_el, all_mapI, all_mapB, all_mapS, all_nilB, all_consB, EB_nil, EB_cons, BB_nil, BB_cons, Bel_ilS, Bel_ilSS, Bel_ilB, List.getElem?_cons_zero, List.take_succ_cons, List.take_zero, keep_nil, keep_cons, and_true, true_and]; try omega)
      · unfold FPost
        rw [if_neg (by simp)]
        exact ⟨rfl, hH1'⟩
    rw [if_neg (fun hh => h (hbad.1 hh))]
    repeat (first | (with_reducible refine SW.seq ?_) | (with_reducible refine SW.block ?_) | (with_reducible refine SW.rowC ?_) | (with_reducible refine SW.skip ?_) | (with_reducible refine SW.exit ?_) | (with_reducible intro _) | (with_reducible refine And.intro (by omega) ?_) | (simp (config := { maxSteps := 1000000 }) (disch := (first | omega | (simp only [go_sem]; try omega))) only [go_sem, ↓GSplit_t, ↓GSplit_f, ↓GSplit_tf, ↓GSplit_ft, Nat.reduceAdd, Nat.reduceEqDiff, Nat.reduceLeDiff, Nat.reduceMul, Nat.reduceLT, reduceIte, Int.reduceToNat, bne_self_eq_false, beq_self_eq_true, w64_id, cast_succ, Bool.false_eq_true, Bool.and_true, Bool.true_and, Bool.and_false, Bool.false_and, Bool.not_not, pc_ld hpt, pc_alive hpt]))
    refine PFn.uselq (size_fn set) (.cons hfz .nil) ?_
    repeat (first | (with_reducible refine SW.seq ?_) | (with_reducible refine SW.block ?_) | (with_reducible refine SW.rowC ?_) | (with_reducible refine SW.skip ?_) | (with_reducible refine SW.exit ?_) | (with_reducible intro _) | (with_reducible refine And.intro (by omega) ?_) | (simp (config := { maxSteps := 1000000 }) (disch := (first | omega | (simp only [go_sem]; try omega))) only [go_sem, ↓GSplit_t, ↓GSplit_f, ↓GSplit_tf, ↓GSplit_ft, Nat.reduceAdd, Nat.reduceEqDiff, Nat.reduceLeDiff, Nat.reduceMul, Nat.reduceLT, reduceIte, Int.reduceToNat, bne_self_eq_false, beq_self_eq_true, w64_id, cast_succ, Bool.false_eq_true, Bool.and_true, Bool.true_and, Bool.and_false, Bool.false_and, Bool.not_not, pc_ld hpt, pc_alive hpt]))
    (first | refine SW.condD rfl (fun h2 => ?_) (fun h2 => ?_) | refine SW.condN rfl (fun h2 => ?_) (fun h2 => ?_) | refine SW.condNB rfl (fun h2 => ?_) (fun h2 => ?_) | refine SW.condB rfl (fun h2 => ?_) (fun h2 => ?_))
    · rw [if_pos h2]
      repeat (first | (with_reducible refine SW.seq ?_) | (with_reducible refine SW.block ?_) | (with_reducible refine SW.rowC ?_) | (with_reducible refine SW.skip ?_) | (with_reducible refine SW.exit ?_) | (with_reducible intro _) | (with_reducible refine And.intro (by omega) ?_) | (simp (config := { maxSteps := 1000000 }) (disch := (first | omega | (simp only [go_sem]; try omega))) only [go_sem, ↓GSplit_t, ↓GSplit_f, ↓GSplit_tf, ↓GSplit_ft, Nat.reduceAdd, Nat.reduceEqDiff, Nat.reduceLeDiff, Nat.reduceMul, Nat.reduceLT, reduceIte, Int.reduceToNat, bne_self_eq_false, beq_self_eq_true, w64_id, cast_succ, Bool.false_eq_true, Bool.and_true, Bool.true_and, Bool.and_false, Bool.false_and, Bool.not_not]))
      refine SW.ret ?_; (try simp only [go_sem]); (first | refine FunPost.one ?_ | refine FunPost.two ?_ | refine FunPost.three ?_); (try simp (config := { maxSteps := 1000000 }) (disch := (first | omega | (simp only [go_sem]; try omega))) only [go_sem, ↓GSplit_t, ↓GSplit_f, ↓GSplit_tf, ↓GSplit_ft, Nat.reduceAdd, Nat.reduceEqDiff, Nat.reduceLeDiff, Nat.reduceMul, Nat.reduceLT, reduceIte, Int.reduceToNat, bne_self_eq_false, beq_self_eq_true, w64_id, cast_succ, Bool.false_eq_true, Bool.and_true, Bool.true_and, Bool.and_false, Bool.false_and, Bool.not_not])
      refine GR.of ?_
      unfold FPost
      rw [if_pos rfl]
      refine ⟨ver, r, rfl, ?_, .inl rfl, by simp; omega, fun j hj hjl => ?_⟩
      · rw [List.getElem?_append_left (by omega)]; exact hr1
      · rw [List.getElem?_append_left (by omega), hH1', List.getElem?_set_ne (Ne.symm hj)]
    rw [if_neg h2]
    have e1 : (set.length : Int) - 1 = ((set.length - 1 : Nat) : Int) := by omega
    have e2 : set.getD (set.length - 1) 0 = lastI set := rfl
    repeat (first | (with_reducible refine SW.seq ?_) | (with_reducible refine SW.block ?_) | (with_reducible refine SW.rowC ?_) | (with_reducible refine SW.skip ?_) | (with_reducible refine SW.exit ?_) | (with_reducible intro _) | (with_reducible refine And.intro (by omega) ?_) | (simp (config := { maxSteps := 1000000 }) (disch := (first | omega | (simp only [go_sem]; try omega))) only [go_sem, ↓GSplit_t, ↓GSplit_f, ↓GSplit_tf, ↓GSplit_ft, Nat.reduceAdd, Nat.reduceEqDiff, Nat.reduceLeDiff, Nat.reduceMul, Nat.reduceLT, reduceIte, Int.reduceToNat, bne_self_eq_false, beq_self_eq_true, w64_id, cast_succ, Bool.false_eq_true, Bool.and_true, Bool.true_and, Bool.and_false, Bool.false_and, Bool.not_not, hv, e1, e2]))
    refine SW.dropT 0 hB1 (by omega) (by simp) ?_ ?_ ?_
    · (simp only [go_sem, Nat.reduceAdd, Nat.reduceEqDiff, reduceIte, and_self, and_true, true_and, implies_true, Bel_lit, Bel_I, Bel_Bv, Bel_nil, Bel_junk, Bel_nm, Bel_pc, Bel_il, Bel_agg, Bel_tup, Bel_fn, Bel_el, all_mapI, all_mapB, all_mapS, all_nilB, all_consB, EB_nil, EB_cons, BB_nil, BB_cons, Bel_ilS, Bel_ilSS, Bel_ilB, List.getElem?_cons_zero, List.take_succ_cons, List.take_zero, keep_nil, keep_cons, and_true, true_and]; try omega)
    · (simp only [go_sem, Nat.reduceAdd, Nat.reduceEqDiff, reduceIte, and_self, and_true, true_and, implies_true, Bel_lit, Bel_I, Bel_Bv, Bel_nil, Bel_junk, Bel_nm, Bel_pc, Bel_il, Bel_agg, Bel_tup, Bel_fn, Bel_el, all_mapI, all_mapB, all_mapS, all_nilB, all_consB, EB_nil, EB_cons, BB_nil, BB_cons, Bel_ilS, Bel_ilSS, Bel_ilB, List.getElem?_cons_zero, List.take_succ_cons, List.take_zero, keep_nil, keep_cons, and_true, true_and]; try omega)
    simp only [List.take_zero, List.append_nil]
    rw [hH1']
    generalize hV : goM (visitM n k lam d) set (xsFrom (lastI set + 1) n) (l - 1) = V
    refine SW.loopE (fun E0 H0 q E' H' => ∃ (x : Int) (l' : Nat) (sp : Bool), lastI set < x ∧ q = (n - x).toNat ∧ E' = aput E0 6 (I x) ∧ H' = H.set p (fCells n k lam l' sp) ∧ l' ≤ l ∧ ((sp = false ∧ V = goM (visitM n k lam d) set (xsFrom x n) l') ∨ (sp = true ∧ V.1 = 2 ∧ V.2.2 = 0 ∧ l' = 0))) (n - (lastI set + 1)).toNat ⟨lastI set + 1, l - 1, false, by omega, rfl, rfl, rfl, by omega, .inl ⟨rfl, hV.symm⟩⟩ ?_
    rintro q E' H' ⟨x, l', sp, hx, rfl, rfl, rfl, hl', hst⟩
    have hpx : (H.set p (fCells n k lam l' sp))[p]? = some (fCells n k lam l' sp) := List.getElem?_set_self hplt
    have hrx : (H.set p (fCells n k lam l' sp))[r]? = some ⟨ver, 2, 1, set.map I⟩ := by rw [List.getElem?_set_ne (Ne.symm hrp)]; exact hr
    have hBx : HB (H.set p (fCells n k lam l' sp)) := hB.set p (by unfold fCells; simp only [List.forall_mem_cons]; (simp only [go_sem, Nat.reduceAdd, Nat.reduceEqDiff, reduceIte, and_self, and_true, true_and, implies_true, Bel_lit, Bel_I, Bel_Bv, Bel_nil, Bel_junk, Bel_nm, Bel_pc, Bel_il, Bel_agg, Bel_tup, Bel_fn, Bel_el, all_mapI, all_mapB, all_mapS, all_nilB, all_consB, EB_nil, EB_cons, BB_nil, BB_cons, Bel_ilS, Bel_ilSS, Bel_ilB, List.getElem?_cons_zero, List.take_succ_cons, List.take_zero, keep_nil, keep_cons, and_true, true_and, List.not_mem_nil, false_implies]; try omega))
    have hlx : (H.set p (fCells n k lam l' sp)).length = H.length := by simp
    generalize hHx : H.set p (fCells n k lam l' sp) = Hx at *
    have hpx' := hpx
    unfold fCells at hpx
    simp (config := { maxSteps := 1000000 }) (disch := (first | omega | (simp only [go_sem]; try omega))) only [go_sem, ↓GSplit_t, ↓GSplit_f, ↓GSplit_tf, ↓GSplit_ft, Nat.reduceAdd, Nat.reduceEqDiff, Nat.reduceLeDiff, Nat.reduceMul, Nat.reduceLT, reduceIte, Int.reduceToNat, bne_self_eq_false, beq_self_eq_true, w64_id, cast_succ, Bool.false_eq_true, Bool.and_true, Bool.true_and, Bool.and_false, Bool.false_and, Bool.not_not]
    repeat (first | (with_reducible refine SW.seq ?_) | (with_reducible refine SW.block ?_) | (with_reducible refine SW.rowC ?_) | (with_reducible refine SW.skip ?_) | (with_reducible refine SW.exit ?_) | (with_reducible intro _) | (with_reducible refine And.intro (by omega) ?_) | (simp (config := { maxSteps := 1000000 }) (disch := (first | omega | (simp only [go_sem]; try omega))) only [go_sem, ↓GSplit_t, ↓GSplit_f, ↓GSplit_tf, ↓GSplit_ft, Nat.reduceAdd, Nat.reduceEqDiff, Nat.reduceLeDiff, Nat.reduceMul, Nat.reduceLT, reduceIte, Int.reduceToNat, bne_self_eq_false, beq_self_eq_true, w64_id, cast_succ, Bool.false_eq_true, Bool.and_true, Bool.true_and, Bool.and_false, Bool.false_and, Bool.not_not, pc_ld hpx, pc_alive hpx]))
    (first | refine SW.condD rfl (fun h5 => ?_) (fun h5 => ?_) | refine SW.condN rfl (fun h5 => ?_) (fun h5 => ?_) | refine SW.condNB rfl (fun h5 => ?_) (fun h5 => ?_) | refine SW.condB rfl (fun h5 => ?_) (fun h5 => ?_))
    · have hvx : RdS Hx (.nm r ver 0 set.length) set := view_nm hrx (by simp)
      repeat (first | (with_reducible refine SW.seq ?_) | (with_reducible refine SW.block ?_) | (with_reducible refine SW.rowC ?_) | (with_reducible refine SW.skip ?_) | (with_reducible refine SW.exit ?_) | (with_reducible intro _) | (with_reducible refine And.intro (by omega) ?_) | (simp (config := { maxSteps := 1000000 }) (disch := (first | omega | (simp only [go_sem]; try omega))) only [go_sem, ↓GSplit_t, ↓GSplit_f, ↓GSplit_tf, ↓GSplit_ft, Nat.reduceAdd, Nat.reduceEqDiff, Nat.reduceLeDiff, Nat.reduceMul, Nat.reduceLT, reduceIte, Int.reduceToNat, bne_self_eq_false, beq_self_eq_true, w64_id, cast_succ, Bool.false_eq_true, Bool.and_true, Bool.true_and, Bool.and_false, Bool.false_and, Bool.not_not]))
      refine (clone_ok _ _ set hvx (by omega)).mono ?_
      rintro r1 Hc ⟨vc, rfl, rfl⟩
      repeat (first | (with_reducible refine SW.seq ?_) | (with_reducible refine SW.block ?_) | (with_reducible refine SW.rowC ?_) | (with_reducible refine SW.skip ?_) | (with_reducible refine SW.exit ?_) | (with_reducible intro _) | (with_reducible refine And.intro (by omega) ?_) | (simp (config := { maxSteps := 1000000 }) (disch := (first | omega | (simp only [go_sem]; try omega))) only [go_sem, ↓GSplit_t, ↓GSplit_f, ↓GSplit_tf, ↓GSplit_ft, Nat.reduceAdd, Nat.reduceEqDiff, Nat.reduceLeDiff, Nat.reduceMul, Nat.reduceLT, reduceIte, Int.reduceToNat, bne_self_eq_false, beq_self_eq_true, w64_id, cast_succ, Bool.false_eq_true, Bool.and_true, Bool.true_and, Bool.and_false, Bool.false_and, Bool.not_not]))
      have hpc := get_appB2 hpx' [⟨vc + 1, 2, 1, (set ++ [x]).map I⟩, ⟨0, 2, 1, [I x]⟩]
      rw [xsFrom_cons h5] at hst
      rcases hst with ⟨rfl, hst⟩ | ⟨rfl, hst1, hst2, hst3⟩
      · have hi := ih (Hx ++ [⟨vc + 1, 2, 1, (set ++ [x]).map I⟩, ⟨0, 2, 1, [I x]⟩]) p Hx.length (vc + 1) (set ++ [x]) l' hpc (by simp) (by omega) (by simp) (asc_snoc ha (fun y hy => by have := asc_last ha y hy; omega) (by omega) (by omega)) (by rw [lastI_snoc]; omega) (by omega)
        rw [show (set ++ [x]).length = set.length + 1 by simp] at hi
        refine hi.mono ?_
        rintro r2 H2 hpost
        rw [goM] at hst
        generalize hW : visitM n k lam d (set ++ [x]) l' = W at *
        have hWl := visitM_left n k lam d (set ++ [x]) l'
        have hWc := visitM_code n k lam d (set ++ [x]) l'
        rw [hW] at hWl hWc
        unfold FPost at hpost
        split at hpost
        · rename_i hc1
          obtain ⟨v', r', rfl, hr', hor, hlen2, hpre⟩ := hpost
          repeat (first | (with_reducible refine SW.seq ?_) | (with_reducible refine SW.block ?_) | (with_reducible refine SW.rowC ?_) | (with_reducible refine SW.skip ?_) | (with_reducible refine SW.exit ?_) | (with_reducible intro _) | (with_reducible refine And.intro (by omega) ?_) | (simp (config := { maxSteps := 1000000 }) (disch := (first | omega | (simp only [go_sem]; try omega))) only [go_sem, ↓GSplit_t, ↓GSplit_f, ↓GSplit_tf, ↓GSplit_ft, Nat.reduceAdd, Nat.reduceEqDiff, Nat.reduceLeDiff, Nat.reduceMul, Nat.reduceLT, reduceIte, Int.reduceToNat, bne_self_eq_false, beq_self_eq_true, w64_id, cast_succ, Bool.false_eq_true, Bool.and_true, Bool.true_and, Bool.and_false, Bool.false_and, Bool.not_not]))
          refine SW.condT rfl ?_
          repeat (first | (with_reducible refine SW.seq ?_) | (with_reducible refine SW.block ?_) | (with_reducible refine SW.rowC ?_) | (with_reducible refine SW.skip ?_) | (with_reducible refine SW.exit ?_) | (with_reducible intro _) | (with_reducible refine And.intro (by omega) ?_) | (simp (config := { maxSteps := 1000000 }) (disch := (first | omega | (simp only [go_sem]; try omega))) only [go_sem, ↓GSplit_t, ↓GSplit_f, ↓GSplit_tf, ↓GSplit_ft, Nat.reduceAdd, Nat.reduceEqDiff, Nat.reduceLeDiff, Nat.reduceMul, Nat.reduceLT, reduceIte, Int.reduceToNat, bne_self_eq_false, beq_self_eq_true, w64_id, cast_succ, Bool.false_eq_true, Bool.and_true, Bool.true_and, Bool.and_false, Bool.false_and, Bool.not_not]))
          refine SW.ret ?_; (try simp only [go_sem]); (first | refine FunPost.one ?_ | refine FunPost.two ?_ | refine FunPost.three ?_); (try simp (config := { maxSteps := 1000000 }) (disch := (first | omega | (simp only [go_sem]; try omega))) only [go_sem, ↓GSplit_t, ↓GSplit_f, ↓GSplit_tf, ↓GSplit_ft, Nat.reduceAdd, Nat.reduceEqDiff, Nat.reduceLeDiff, Nat.reduceMul, Nat.reduceLT, reduceIte, Int.reduceToNat, bne_self_eq_false, beq_self_eq_true, w64_id, cast_succ, Bool.false_eq_true, Bool.and_true, Bool.true_and, Bool.and_false, Bool.false_and, Bool.not_not])
          refine GR.of ?_
          rw [if_neg (by omega)] at hst
          rw [hst]
          unfold FPost
          rw [if_pos hc1]
          simp only [List.length_append, List.length_cons, List.length_nil] at hlen2 hor
          refine ⟨v', r', rfl, hr', .inr (by omega), by omega, fun j hj hjl => ?_⟩
          rw [hpre j hj (by simp; omega), List.getElem?_append_left (by omega), ← hHx, List.getElem?_set_ne (Ne.symm hj)]
        · rename_i hc1
          obtain ⟨rfl, rfl⟩ := hpost
          have e3 : ∀ c : Blk, (Hx ++ ([⟨vc + 1, 2, 1, (set ++ [x]).map I⟩, ⟨0, 2, 1, [I x]⟩] : List Blk)).set p c = H.set p c ++ ([⟨vc + 1, 2, 1, (set ++ [x]).map I⟩, ⟨0, 2, 1, [I x]⟩] : List Blk) := fun c => by rw [List.set_append_left _ _ (by omega), ← hHx, List.set_set]
          rw [e3]
          have hB2 : HB (H.set p (fCells n k lam W.2.2 (decide (W.1 = 2)))) := hB.set p (by unfold fCells; simp only [List.forall_mem_cons]; (simp only [go_sem, Nat.reduceAdd, Nat.reduceEqDiff, reduceIte, and_self, and_true, true_and, implies_true, Bel_lit, Bel_I, Bel_Bv, Bel_nil, Bel_junk, Bel_nm, Bel_pc, Bel_il, Bel_agg, Bel_tup, Bel_fn, Bel_el, all_mapI, all_mapB, all_mapS, all_nilB, all_consB, EB_nil, EB_cons, BB_nil, BB_cons, Bel_ilS, Bel_ilSS, Bel_ilB, List.getElem?_cons_zero, List.take_succ_cons, List.take_zero, keep_nil, keep_cons, and_true, true_and, List.not_mem_nil, false_implies]; try omega))
          have hl2 : (H.set p (fCells n k lam W.2.2 (decide (W.1 = 2)))).length = H.length := by simp
          have hnext : ((decide (W.1 = 2) = false ∧ V = goM (visitM n k lam d) set (xsFrom (x + 1) n) W.2.2) ∨ (decide (W.1 = 2) = true ∧ V.1 = 2 ∧ V.2.2 = 0 ∧ W.2.2 = 0)) := by
            by_cases hc0 : W.1 = 0
            · rw [if_pos hc0] at hst
              exact .inl ⟨decide_eq_false (by omega), hst⟩
            · have hc2 : W.1 = 2 := by omega
              rw [if_neg hc0] at hst
              rw [hst]
              exact .inr ⟨decide_eq_true hc2, hc2, hWl.2 hc2, hWl.2 hc2⟩
          generalize hHy : H.set p (fCells n k lam W.2.2 (decide (W.1 = 2))) = Hy at *
          repeat (first | (with_reducible refine SW.seq ?_) | (with_reducible refine SW.block ?_) | (with_reducible refine SW.rowC ?_) | (with_reducible refine SW.skip ?_) | (with_reducible refine SW.exit ?_) | (with_reducible intro _) | (with_reducible refine And.intro (by omega) ?_) | (simp (config := { maxSteps := 1000000 }) (disch := (first | omega | (simp only [go_sem]; try omega))) only [go_sem, ↓GSplit_t, ↓GSplit_f, ↓GSplit_tf, ↓GSplit_ft, Nat.reduceAdd, Nat.reduceEqDiff, Nat.reduceLeDiff, Nat.reduceMul, Nat.reduceLT, reduceIte, Int.reduceToNat, bne_self_eq_false, beq_self_eq_true, w64_id, cast_succ, Bool.false_eq_true, Bool.and_true, Bool.true_and, Bool.and_false, Bool.false_and, Bool.not_not]))
          refine SW.condF rfl ?_
          repeat (first | (with_reducible refine SW.seq ?_) | (with_reducible refine SW.block ?_) | (with_reducible refine SW.rowC ?_) | (with_reducible refine SW.skip ?_) | (with_reducible refine SW.exit ?_) | (with_reducible intro _) | (with_reducible refine And.intro (by omega) ?_) | (simp (config := { maxSteps := 1000000 }) (disch := (first | omega | (simp only [go_sem]; try omega))) only [go_sem, ↓GSplit_t, ↓GSplit_f, ↓GSplit_tf, ↓GSplit_ft, Nat.reduceAdd, Nat.reduceEqDiff, Nat.reduceLeDiff, Nat.reduceMul, Nat.reduceLT, reduceIte, Int.reduceToNat, bne_self_eq_false, beq_self_eq_true, w64_id, cast_succ, Bool.false_eq_true, Bool.and_true, Bool.true_and, Bool.and_false, Bool.false_and, Bool.not_not]))
          refine SLoop.nextT 0 (n - (x + 1)).toNat hB2 (by omega) (by omega) (by simp) ?_ ?_ ⟨x + 1, W.2.2, decide (W.1 = 2), by omega, rfl, ?_, ?_, by omega, hnext⟩
          · (simp only [go_sem, Nat.reduceAdd, Nat.reduceEqDiff, reduceIte, and_self, and_true, true_and, implies_true, Bel_lit, Bel_I, Bel_Bv, Bel_nil, Bel_junk, Bel_nm, Bel_pc, Bel_il, Bel_agg, Bel_tup, Bel_fn, Bel_el, all_mapI, all_mapB, all_mapS, all_nilB, all_consB, EB_nil, EB_cons, BB_nil, BB_cons, Bel_ilS, Bel_ilSS, Bel_ilB, List.getElem?_cons_zero, List.take_succ_cons, List.take_zero, keep_nil, keep_cons, and_true, true_and]; try omega)
          · (simp only [go_sem, Nat.reduceAdd, Nat.reduceEqDiff, reduceIte, and_self, and_true, true_and, implies_true, Bel_lit, Bel_I, Bel_Bv, Bel_nil, Bel_junk, Bel_nm, Bel_pc, Bel_il, Bel_agg, Bel_tup, Bel_fn, Bel_el, all_mapI, all_mapB, all_mapS, all_nilB, all_consB, EB_nil, EB_cons, BB_nil, BB_cons, Bel_ilS, Bel_ilSS, Bel_ilB, List.getElem?_cons_zero, List.take_succ_cons, List.take_zero, keep_nil, keep_cons, and_true, true_and]; try omega)
          · simp [go_sem]
          · rw [hHy]; simp
      · subst hst3
        refine ACalls.fn (finder_spent n k lam _ p _ 0 hpc) ?_
        repeat (first | (with_reducible refine SW.seq ?_) | (with_reducible refine SW.block ?_) | (with_reducible refine SW.rowC ?_) | (with_reducible refine SW.skip ?_) | (with_reducible refine SW.exit ?_) | (with_reducible intro _) | (with_reducible refine And.intro (by omega) ?_) | (simp (config := { maxSteps := 1000000 }) (disch := (first | omega | (simp only [go_sem]; try omega))) only [go_sem, ↓GSplit_t, ↓GSplit_f, ↓GSplit_tf, ↓GSplit_ft, Nat.reduceAdd, Nat.reduceEqDiff, Nat.reduceLeDiff, Nat.reduceMul, Nat.reduceLT, reduceIte, Int.reduceToNat, bne_self_eq_false, beq_self_eq_true, w64_id, cast_succ, Bool.false_eq_true, Bool.and_true, Bool.true_and, Bool.and_false, Bool.false_and, Bool.not_not]))
        refine SW.condF rfl ?_
        repeat (first | (with_reducible refine SW.seq ?_) | (with_reducible refine SW.block ?_) | (with_reducible refine SW.rowC ?_) | (with_reducible refine SW.skip ?_) | (with_reducible refine SW.exit ?_) | (with_reducible intro _) | (with_reducible refine And.intro (by omega) ?_) | (simp (config := { maxSteps := 1000000 }) (disch := (first | omega | (simp only [go_sem]; try omega))) only [go_sem, ↓GSplit_t, ↓GSplit_f, ↓GSplit_tf, ↓GSplit_ft, Nat.reduceAdd, Nat.reduceEqDiff, Nat.reduceLeDiff, Nat.reduceMul, Nat.reduceLT, reduceIte, Int.reduceToNat, bne_self_eq_false, beq_self_eq_true, w64_id, cast_succ, Bool.false_eq_true, Bool.and_true, Bool.true_and, Bool.and_false, Bool.false_and, Bool.not_not]))
        refine SLoop.nextT 0 (n - (x + 1)).toNat hBx (by omega) (by omega) (by simp) ?_ ?_ ⟨x + 1, 0, true, by omega, rfl, ?_, ?_, by omega, .inr ⟨rfl, hst1, hst2, rfl⟩⟩
        · (simp only [go_sem, Nat.reduceAdd, Nat.reduceEqDiff, reduceIte, and_self, and_true, true_and, implies_true, Bel_lit, Bel_I, Bel_Bv, Bel_nil, Bel_junk, Bel_nm, Bel_pc, Bel_il, Bel_agg, Bel_tup, Bel_fn, Bel_el, all_mapI, all_mapB, all_mapS, all_nilB, all_consB, EB_nil, EB_cons, BB_nil, BB_cons, Bel_ilS, Bel_ilSS, Bel_ilB, List.getElem?_cons_zero, List.take_succ_cons, List.take_zero, keep_nil, keep_cons, and_true, true_and]; try omega)
        · (simp only [go_sem, Nat.reduceAdd, Nat.reduceEqDiff, reduceIte, and_self, and_true, true_and, implies_true, Bel_lit, Bel_I, Bel_Bv, Bel_nil, Bel_junk, Bel_nm, Bel_pc, Bel_il, Bel_agg, Bel_tup, Bel_fn, Bel_el, all_mapI, all_mapB, all_mapS, all_nilB, all_consB, EB_nil, EB_cons, BB_nil, BB_cons, Bel_ilS, Bel_ilSS, Bel_ilB, List.getElem?_cons_zero, List.take_succ_cons, List.take_zero, keep_nil, keep_cons, and_true, true_and]; try omega)
        · simp [go_sem]
        · rw [hHx]; simp
    · rw [xsFrom_nil (by omega)] at hst
      repeat (first | (with_reducible refine SW.seq ?_) | (with_reducible refine SW.block ?_) | (with_reducible refine SW.rowC ?_) | (with_reducible refine SW.skip ?_) | (with_reducible refine SW.exit ?_) | (with_reducible intro _) | (with_reducible refine And.intro (by omega) ?_) | (simp (config := { maxSteps := 1000000 }) (disch := (first | omega | (simp only [go_sem]; try omega))) only [go_sem, ↓GSplit_t, ↓GSplit_f, ↓GSplit_tf, ↓GSplit_ft, Nat.reduceAdd, Nat.reduceEqDiff, Nat.reduceLeDiff, Nat.reduceMul, Nat.reduceLT, reduceIte, Int.reduceToNat, bne_self_eq_false, beq_self_eq_true, w64_id, cast_succ, Bool.false_eq_true, Bool.and_true, Bool.true_and, Bool.and_false, Bool.false_and, Bool.not_not]))
      refine SW.ret ?_; (try simp only [go_sem]); (first | refine FunPost.one ?_ | refine FunPost.two ?_ | refine FunPost.three ?_); (try simp (config := { maxSteps := 1000000 }) (disch := (first | omega | (simp only [go_sem]; try omega))) only [go_sem, ↓GSplit_t, ↓GSplit_f, ↓GSplit_tf, ↓GSplit_ft, Nat.reduceAdd, Nat.reduceEqDiff, Nat.reduceLeDiff, Nat.reduceMul, Nat.reduceLT, reduceIte, Int.reduceToNat, bne_self_eq_false, beq_self_eq_true, w64_id, cast_succ, Bool.false_eq_true, Bool.and_true, Bool.true_and, Bool.and_false, Bool.false_and, Bool.not_not])
      refine GR.of ?_
      unfold FPost
      rcases hst with ⟨rfl, hst⟩ | ⟨rfl, hst1, hst2, hst3⟩
      · rw [hst, goM, if_neg (by simp)]
        exact ⟨rfl, hHx.symm⟩
      · rw [if_neg (by omega)]
        refine ⟨rfl, ?_⟩
        rw [hst1, hst2, ← hHx, hst3]; rfl
end Go.Proofs.Ytmgbglekgigkmaa
