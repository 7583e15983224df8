/- How many values; lists of keys: the reference. -/
import Derived.Test.YtmdeibdplpodpaaProg
import Derived.KernelRfl
import Derived.Test.YtmdeibdplpodpaazRI
import Derived.Test.YtmdeibdplpodpaazRF
set_option linter.unusedSimpArgs false
set_option linter.unusedVariables false
set_option maxHeartbeats 4000000
set_option maxRecDepth 100000
namespace Go.Proofs.Ytmdeibdplpodpaa
open Go.Av
abbrev f_spec_l21Many : Nat := 72
def c_spec_l21Many : SC :=
 .seq (.reg [
     ⟨(some 2), .mv (.const (.int .i64 0)), none⟩] [0])
 (.seq (.reg [
     ⟨(some 5), .bslice 2 1 0 [] [], none⟩,
     ⟨(some 3), .mv (.tmp 5), none⟩] [0, 3])
 (.seq (.seq (.reg [
     ⟨(some 4), .mv (.const (.int .i64 0)), none⟩] [0, 3, 4])
 (.block 0 (.loop [0, 3, 4]
   (.seq (.seq (.reg [
       ⟨(some 6), .mv (.tmp 4), none⟩,
       ⟨(some 7), .mv (.tmp 0), none⟩,
       ⟨(some 8), .len (.tmp 7), none⟩,
       ⟨(some 9), .bin .lss (.tmp 6) (.tmp 8), none⟩] [0, 3, 4, 9])
   (.cond (.tmp 9)
    (.skip)
    (.exit 0)))
   (.seq (.block 1 (.reg [
        ⟨(some 12), .mv (.tmp 3), none⟩,
        ⟨(some 13), .mv (.tmp 0), none⟩,
        ⟨(some 14), .mv (.tmp 4), none⟩,
        ⟨(some 15), .iaddr 1 (.tmp 13) (.tmp 14), none⟩,
        ⟨(some 16), .load 1 false (.tmp 15), none⟩,
        ⟨(some 17), .call 88 [(.tmp 12), (.tmp 16)], none⟩,
        ⟨(some 3), .mv (.tmp 17), none⟩] [0, 3, 4]))
   (.reg [
       ⟨(some 10), .mv (.tmp 4), none⟩,
       ⟨(some 11), .bin .add (.tmp 10) (.const (.int .i64 1)), none⟩,
       ⟨(some 4), .mv (.tmp 11), none⟩] [0, 3, 4]))))))
 (.seq (.reg [
     ⟨(some 18), .mv (.tmp 3), none⟩,
     ⟨(some 19), .len (.tmp 18), none⟩,
     ⟨(some 2), .mv (.tmp 19), none⟩] [2])
 (.ret))))
theorem s_spec_l21Many : stripF Try.prog 72 [[0], [0, 3], [0, 3, 4], [0, 3, 4], [0, 3, 4, 9], [0, 3, 4], [0, 3, 4], [2]] = some (c_spec_l21Many, [.tmp 2], 20) := by kernel_rfl
abbrev f_spec_l00Put : Nat := 88
def c_spec_l00Put : SC :=
 .seq (.reg [
     ⟨(some 4), .mv (.const (.slice none 0 0)), none⟩] [0, 1])
 (.seq (.reg [
     ⟨(some 8), .bslice 2 1 0 [] [], none⟩,
     ⟨(some 5), .mv (.tmp 8), none⟩] [0, 1, 5])
 (.seq (.reg [
     ⟨(some 6), .mv (.const (.bool false)), none⟩] [0, 1, 5, 6])
 (.seq (.seq (.reg [
     ⟨(some 7), .mv (.const (.int .i64 0)), none⟩] [0, 1, 5, 6, 7])
 (.block 0 (.loop [0, 1, 5, 6, 7]
   (.seq (.seq (.reg [
       ⟨(some 9), .mv (.tmp 7), none⟩,
       ⟨(some 10), .mv (.tmp 0), none⟩,
       ⟨(some 11), .len (.tmp 10), none⟩,
       ⟨(some 12), .bin .lss (.tmp 9) (.tmp 11), none⟩] [0, 1, 5, 6, 7, 12])
   (.cond (.tmp 12)
    (.skip)
    (.exit 0)))
   (.seq (.block 1 (.seq (.seq (.reg [
        ⟨(some 15), .mv (.tmp 6), none⟩,
        ⟨(some 16), .un .not (.tmp 15), none⟩,
        ⟨(some 17), .mv (.tmp 16), none⟩,
        ⟨(some 18), .mv (.tmp 0), (some (17, true))⟩,
        ⟨(some 19), .mv (.tmp 7), (some (17, true))⟩,
        ⟨(some 20), .iaddr 1 (.tmp 18) (.tmp 19), (some (17, true))⟩,
        ⟨(some 21), .load 1 false (.tmp 20), (some (17, true))⟩,
        ⟨(some 22), .mv (.tmp 1), (some (17, true))⟩,
        ⟨(some 23), .bin .geq (.tmp 21) (.tmp 22), (some (17, true))⟩,
        ⟨(some 24), .pick (.tmp 17) (.tmp 23) (.const (.bool false)), none⟩] [0, 1, 5, 6, 7, 24])
    (.cond (.tmp 24)
     (.seq (.reg [
         ⟨(some 6), .mv (.const (.bool true)), none⟩] [0, 1, 5, 6, 7])
     (.seq (.reg [
         ⟨(some 25), .mv (.tmp 0), none⟩,
         ⟨(some 26), .mv (.tmp 7), none⟩,
         ⟨(some 27), .iaddr 1 (.tmp 25) (.tmp 26), none⟩,
         ⟨(some 28), .load 1 false (.tmp 27), none⟩,
         ⟨(some 29), .mv (.tmp 1), none⟩,
         ⟨(some 30), .bin .gtr (.tmp 28) (.tmp 29), none⟩] [0, 1, 5, 6, 7, 30])
     (.cond (.tmp 30)
      (.reg [
          ⟨(some 31), .mv (.tmp 5), none⟩,
          ⟨(some 32), .mv (.tmp 1), none⟩,
          ⟨(some 33), .bslice 2 1 1 [(.int .i64 0)] [(0, (.tmp 32))], none⟩,
          ⟨(some 34), .app 2 1 8 (.tmp 31) (.tmp 33), none⟩,
          ⟨(some 5), .mv (.tmp 34), none⟩] [0, 1, 5, 6, 7])
      (.skip))))
     (.skip)))
    (.reg [
        ⟨(some 35), .mv (.tmp 5), none⟩,
        ⟨(some 36), .mv (.tmp 0), none⟩,
        ⟨(some 37), .mv (.tmp 7), none⟩,
        ⟨(some 38), .iaddr 1 (.tmp 36) (.tmp 37), none⟩,
        ⟨(some 39), .load 1 false (.tmp 38), none⟩,
        ⟨(some 40), .bslice 2 1 1 [(.int .i64 0)] [(0, (.tmp 39))], none⟩,
        ⟨(some 41), .app 2 1 8 (.tmp 35) (.tmp 40), none⟩,
        ⟨(some 5), .mv (.tmp 41), none⟩] [0, 1, 5, 6, 7])))
   (.reg [
       ⟨(some 13), .mv (.tmp 7), none⟩,
       ⟨(some 14), .bin .add (.tmp 13) (.const (.int .i64 1)), none⟩,
       ⟨(some 7), .mv (.tmp 14), none⟩] [0, 1, 5, 6, 7]))))))
 (.seq (.seq (.reg [
     ⟨(some 42), .mv (.tmp 6), none⟩,
     ⟨(some 43), .un .not (.tmp 42), none⟩] [1, 5, 43])
 (.cond (.tmp 43)
  (.reg [
      ⟨(some 44), .mv (.tmp 5), none⟩,
      ⟨(some 45), .mv (.tmp 1), none⟩,
      ⟨(some 46), .bslice 2 1 1 [(.int .i64 0)] [(0, (.tmp 45))], none⟩,
      ⟨(some 47), .app 2 1 8 (.tmp 44) (.tmp 46), none⟩,
      ⟨(some 5), .mv (.tmp 47), none⟩] [5])
  (.skip)))
 (.seq (.reg [
     ⟨(some 48), .mv (.tmp 5), none⟩,
     ⟨(some 4), .mv (.tmp 48), none⟩] [4])
 (.ret))))))
theorem s_spec_l00Put : stripF Try.prog 88 [[0, 1], [0, 1, 5], [0, 1, 5, 6], [0, 1, 5, 6, 7], [0, 1, 5, 6, 7], [0, 1, 5, 6, 7, 12], [0, 1, 5, 6, 7, 24], [0, 1, 5, 6, 7], [0, 1, 5, 6, 7, 30], [0, 1, 5, 6, 7], [0, 1, 5, 6, 7], [0, 1, 5, 6, 7], [1, 5, 43], [5], [4]] = some (c_spec_l00Put, [.tmp 4], 49) := by kernel_rfl
def cmpR (a b : Int) : Int := a - b
theorem cmpR_tot : TotC cmpR := ⟨fun x y => by unfold cmpR; omega, fun x y => by unfold cmpR; omega, fun x y z => by unfold cmpR; omega⟩
theorem l00PutR_fn (xss : List Int) (x : Int) (hl : xss.length ≤ 2000000) : PFn Try.prog f_spec_l00Put [ilS xss, I x] (ilS (insU cmpR x xss)) := by
  intro H; refine ACalls.introB s_spec_l00Put (by simp) ?_; intro hB hA; unfold c_spec_l00Put; simp (config := { maxSteps := 1000000 }) (disch := (first | omega | (simp only [go_sem]; try omega))) only [go_sem, Nat.reduceAdd, Nat.reduceEqDiff, Nat.reduceLeDiff, Nat.reduceMul, Nat.reduceLT, reduceIte, Int.reduceToNat, w64_id, cast_succ]
  repeat (first | (with_reducible first | refine SW.seq ?_ | refine SW.block ?_ | refine SW.rowC ?_ | refine SW.skip ?_ | refine SW.exit ?_ | intro _ | refine And.intro (by omega) ?_) | simp (config := { maxSteps := 1000000 }) (disch := (first | omega | (simp only [go_sem]; try omega))) only [go_sem, Nat.reduceAdd, Nat.reduceEqDiff, Nat.reduceLeDiff, Nat.reduceMul, Nat.reduceLT, reduceIte, Int.reduceToNat, w64_id, cast_succ])
  refine SW.loopE (fun E0 H0 q E' H' => ∃ (pre post L : List Int) (ver : Nat) (done : Bool), xss = pre ++ post ∧ q = post.length ∧ E' = aput (aput (aput E0 7 (I pre.length)) 6 (Bv done)) 5 (.nm H.length ver 0 L.length) ∧ H' = H ++ [⟨ver, 2, 1, L.map I⟩] ∧
    (if done = true then L ++ post else L ++ insU cmpR x post) = insU cmpR x xss ∧ L.length ≤ pre.length + (if done = true then 1 else 0)) xss.length ⟨[], xss, [], 0, false, rfl, rfl, rfl, rfl, rfl, by simp⟩ ?_
  rintro q E' H' ⟨pre, post, L, ver, done, hp, rfl, rfl, rfl, hL, hLl⟩
  have hpl : pre.length ≤ 2000000 := by rw [hp] at hl; simp at hl; omega
  have htl : (L.map I).take L.length = L.map I := List.take_of_length_le (by simp)
  have htl1 : ∀ y, (L.map I ++ [I y]).take (L.length + 1) = L.map I ++ [I y] := fun y => List.take_of_length_le (by simp)
  have htl3 : ∀ y, (List.map I (L ++ [y])).take (L.length + 1) = List.map I (L ++ [y]) := fun y => List.take_of_length_le (by simp)
  have insc : ∀ (y : Int) (r : List Int), insU cmpR x (y :: r) = if x ≤ y then (if x < y then x :: y :: r else y :: r) else y :: insU cmpR x r := fun y r => by
    rw [insU]; unfold cmpR
    by_cases h1 : x ≤ y
    · rw [if_pos (show y - x ≥ 0 by omega), if_pos h1]
      by_cases h2 : x < y
      · rw [if_pos (show y - x > 0 by omega), if_pos h2]
      · rw [if_neg (show ¬ y - x > 0 by omega), if_neg h2]
    · rw [if_neg (show ¬ y - x ≥ 0 by omega), if_neg h1]
  cases done
  · simp only [Bool.false_eq_true, if_false] at hL hLl
    simp (config := { maxSteps := 1000000 }) (disch := (first | omega | (simp only [go_sem]; try omega))) only [go_sem, Nat.reduceAdd, Nat.reduceEqDiff, Nat.reduceLeDiff, Nat.reduceMul, Nat.reduceLT, reduceIte, Int.reduceToNat, w64_id, cast_succ]
    repeat (first | (with_reducible first | refine SW.seq ?_ | refine SW.block ?_ | refine SW.rowC ?_ | refine SW.skip ?_ | refine SW.exit ?_ | intro _ | refine And.intro (by omega) ?_) | simp (config := { maxSteps := 1000000 }) (disch := (first | omega | (simp only [go_sem]; try omega))) only [go_sem, Nat.reduceAdd, Nat.reduceEqDiff, Nat.reduceLeDiff, Nat.reduceMul, Nat.reduceLT, reduceIte, Int.reduceToNat, w64_id, cast_succ])
    (first | refine SW.condD rfl (fun h => ?_) (fun h => ?_) | refine SW.condN rfl (fun h => ?_) (fun h => ?_) | refine SW.condNB rfl (fun h => ?_) (fun h => ?_) | refine SW.condB rfl (fun h => ?_) (fun h => ?_))
    · obtain ⟨y, post, rfl, hg, -⟩ := consOf (d := 0) hp (by omega)
      rw [insc] at hL
      by_cases hc0 : x ≤ y
      · rw [if_pos hc0] at hL
        have hd0 : decide (x ≤ y) = true := decide_eq_true hc0
        repeat (first | (with_reducible first | refine SW.seq ?_ | refine SW.block ?_ | refine SW.rowC ?_ | refine SW.skip ?_ | refine SW.exit ?_ | intro _ | refine And.intro (by omega) ?_) | simp (config := { maxSteps := 1000000 }) (disch := (first | omega | (simp only [go_sem]; try omega))) only [go_sem, Nat.reduceAdd, Nat.reduceEqDiff, Nat.reduceLeDiff, Nat.reduceMul, Nat.reduceLT, reduceIte, Int.reduceToNat, w64_id, cast_succ, hg, hd0])
        refine SW.condT rfl ?_
        repeat (first | (with_reducible first | refine SW.seq ?_ | refine SW.block ?_ | refine SW.rowC ?_ | refine SW.skip ?_ | refine SW.exit ?_ | intro _ | refine And.intro (by omega) ?_) | simp (config := { maxSteps := 1000000 }) (disch := (first | omega | (simp only [go_sem]; try omega))) only [go_sem, Nat.reduceAdd, Nat.reduceEqDiff, Nat.reduceLeDiff, Nat.reduceMul, Nat.reduceLT, reduceIte, Int.reduceToNat, w64_id, cast_succ])
        by_cases hc1 : x < y
        · rw [if_pos hc1] at hL
          have hd1 : decide (x < y) = true := decide_eq_true hc1
          repeat (first | (with_reducible first | refine SW.seq ?_ | refine SW.block ?_ | refine SW.rowC ?_ | refine SW.skip ?_ | refine SW.exit ?_ | intro _ | refine And.intro (by omega) ?_) | simp (config := { maxSteps := 1000000 }) (disch := (first | omega | (simp only [go_sem]; try omega))) only [go_sem, Nat.reduceAdd, Nat.reduceEqDiff, Nat.reduceLeDiff, Nat.reduceMul, Nat.reduceLT, reduceIte, Int.reduceToNat, w64_id, cast_succ, hg, hd1])
          refine SW.condT rfl ?_
          repeat (first | (with_reducible first | refine SW.seq ?_ | refine SW.block ?_ | refine SW.rowC ?_ | refine SW.skip ?_ | refine SW.exit ?_ | intro _ | refine And.intro (by omega) ?_) | simp (config := { maxSteps := 1000000 }) (disch := (first | omega | (simp only [go_sem]; try omega))) only [go_sem, Nat.reduceAdd, Nat.reduceEqDiff, Nat.reduceLeDiff, Nat.reduceMul, Nat.reduceLT, reduceIte, Int.reduceToNat, w64_id, cast_succ, hg, htl, htl1, htl3])
          have htl2 : (L.map I ++ [I x, I y]).take (L.length + 2) = L.map I ++ [I x, I y] := List.take_of_length_le (by simp)
          refine SLoop.nextT 1 post.length hB (by omega) (by simp) (by simp) ?_ ?_ ⟨pre ++ [y], post, L ++ [x, y], ver + 1 + 1, true, by simp [hp], rfl, ?_, ?_, ?_, ?_⟩
          · (simp only [go_sem, Nat.reduceAdd, Nat.reduceEqDiff, reduceIte, go_sem, and_self, and_true, true_and, implies_true, List.take_succ_cons, List.take_zero, and_true, true_and]; try omega)
          · (simp only [go_sem, Nat.reduceAdd, Nat.reduceEqDiff, reduceIte, go_sem, and_self, and_true, true_and, implies_true, List.take_succ_cons, List.take_zero, and_true, true_and]; try omega)
          · simp [go_sem]
          · simp
          · simpa using hL
          · simp; omega
        · rw [if_neg hc1] at hL
          have hd1 : decide (x < y) = false := decide_eq_false hc1
          repeat (first | (with_reducible first | refine SW.seq ?_ | refine SW.block ?_ | refine SW.rowC ?_ | refine SW.skip ?_ | refine SW.exit ?_ | intro _ | refine And.intro (by omega) ?_) | simp (config := { maxSteps := 1000000 }) (disch := (first | omega | (simp only [go_sem]; try omega))) only [go_sem, Nat.reduceAdd, Nat.reduceEqDiff, Nat.reduceLeDiff, Nat.reduceMul, Nat.reduceLT, reduceIte, Int.reduceToNat, w64_id, cast_succ, hg, hd1])
          refine SW.condF rfl ?_
          repeat (first | (with_reducible first | refine SW.seq ?_ | refine SW.block ?_ | refine SW.rowC ?_ | refine SW.skip ?_ | refine SW.exit ?_ | intro _ | refine And.intro (by omega) ?_) | simp (config := { maxSteps := 1000000 }) (disch := (first | omega | (simp only [go_sem]; try omega))) only [go_sem, Nat.reduceAdd, Nat.reduceEqDiff, Nat.reduceLeDiff, Nat.reduceMul, Nat.reduceLT, reduceIte, Int.reduceToNat, w64_id, cast_succ, hg, htl, htl1, htl3])
          refine SLoop.nextT 1 post.length hB (by omega) (by simp) (by simp) ?_ ?_ ⟨pre ++ [y], post, L ++ [y], ver + 1, true, by simp [hp], rfl, ?_, ?_, ?_, ?_⟩
          · (simp only [go_sem, Nat.reduceAdd, Nat.reduceEqDiff, reduceIte, go_sem, and_self, and_true, true_and, implies_true, List.take_succ_cons, List.take_zero, and_true, true_and]; try omega)
          · (simp only [go_sem, Nat.reduceAdd, Nat.reduceEqDiff, reduceIte, go_sem, and_self, and_true, true_and, implies_true, List.take_succ_cons, List.take_zero, and_true, true_and]; try omega)
          · simp [go_sem]
          · simp
          · simpa using hL
          · simp; omega
      · rw [if_neg hc0] at hL
        have hd0 : decide (x ≤ y) = false := decide_eq_false hc0
        repeat (first | (with_reducible first | refine SW.seq ?_ | refine SW.block ?_ | refine SW.rowC ?_ | refine SW.skip ?_ | refine SW.exit ?_ | intro _ | refine And.intro (by omega) ?_) | simp (config := { maxSteps := 1000000 }) (disch := (first | omega | (simp only [go_sem]; try omega))) only [go_sem, Nat.reduceAdd, Nat.reduceEqDiff, Nat.reduceLeDiff, Nat.reduceMul, Nat.reduceLT, reduceIte, Int.reduceToNat, w64_id, cast_succ, hg, hd0])
        refine SW.condF rfl ?_
        repeat (first | (with_reducible first | refine SW.seq ?_ | refine SW.block ?_ | refine SW.rowC ?_ | refine SW.skip ?_ | refine SW.exit ?_ | intro _ | refine And.intro (by omega) ?_) | simp (config := { maxSteps := 1000000 }) (disch := (first | omega | (simp only [go_sem]; try omega))) only [go_sem, Nat.reduceAdd, Nat.reduceEqDiff, Nat.reduceLeDiff, Nat.reduceMul, Nat.reduceLT, reduceIte, Int.reduceToNat, w64_id, cast_succ, hg, htl, htl1, htl3])
        refine SLoop.nextT 1 post.length hB (by omega) (by simp) (by simp) ?_ ?_ ⟨pre ++ [y], post, L ++ [y], ver + 1, false, by simp [hp], rfl, ?_, ?_, ?_, ?_⟩
        · (simp only [go_sem, Nat.reduceAdd, Nat.reduceEqDiff, reduceIte, go_sem, and_self, and_true, true_and, implies_true, List.take_succ_cons, List.take_zero, and_true, true_and]; try omega)
        · (simp only [go_sem, Nat.reduceAdd, Nat.reduceEqDiff, reduceIte, go_sem, and_self, and_true, true_and, implies_true, List.take_succ_cons, List.take_zero, and_true, true_and]; try omega)
        · simp [go_sem]
        · simp
        · simpa using hL
        · simp; omega
    · obtain ⟨rfl, rfl⟩ := nilOf hp (by omega)
      repeat (first | (with_reducible first | refine SW.seq ?_ | refine SW.block ?_ | refine SW.rowC ?_ | refine SW.skip ?_ | refine SW.exit ?_ | intro _ | refine And.intro (by omega) ?_) | simp (config := { maxSteps := 1000000 }) (disch := (first | omega | (simp only [go_sem]; try omega))) only [go_sem, Nat.reduceAdd, Nat.reduceEqDiff, Nat.reduceLeDiff, Nat.reduceMul, Nat.reduceLT, reduceIte, Int.reduceToNat, w64_id, cast_succ, htl])
      refine SW.condT rfl ?_
      repeat (first | (with_reducible first | refine SW.seq ?_ | refine SW.block ?_ | refine SW.rowC ?_ | refine SW.skip ?_ | refine SW.exit ?_ | intro _ | refine And.intro (by omega) ?_) | simp (config := { maxSteps := 1000000 }) (disch := (first | omega | (simp only [go_sem]; try omega))) only [go_sem, Nat.reduceAdd, Nat.reduceEqDiff, Nat.reduceLeDiff, Nat.reduceMul, Nat.reduceLT, reduceIte, Int.reduceToNat, w64_id, cast_succ, htl])
      refine SW.ret ?_; (try simp only [go_sem]); (first | refine FunPost.one ?_ | refine FunPost.two ?_ | refine FunPost.three ?_); (try simp (config := { maxSteps := 1000000 }) (disch := (first | omega | (simp only [go_sem]; try omega))) only [go_sem, Nat.reduceAdd, Nat.reduceEqDiff, Nat.reduceLeDiff, Nat.reduceMul, Nat.reduceLT, reduceIte, Int.reduceToNat, w64_id, cast_succ])
      refine GR.froz (r' := ilS (insU cmpR x pre)) ?_ ⟨rfl, rfl⟩
      rw [← hL]
      have e := froz_rowI (H := H ++ [⟨ver + 1, 2, 1, (L ++ [x]).map I⟩, ⟨0, 2, 1, [I x]⟩]) (b := H.length) (r := H.length) (ver := ver + 1) (ty := 2) (xs := L ++ [x]) (Nat.le_refl _) (by simp)
      rw [List.length_append] at e
      exact e
  · simp only [if_true] at hL hLl
    simp (config := { maxSteps := 1000000 }) (disch := (first | omega | (simp only [go_sem]; try omega))) only [go_sem, Nat.reduceAdd, Nat.reduceEqDiff, Nat.reduceLeDiff, Nat.reduceMul, Nat.reduceLT, reduceIte, Int.reduceToNat, w64_id, cast_succ]
    repeat (first | (with_reducible first | refine SW.seq ?_ | refine SW.block ?_ | refine SW.rowC ?_ | refine SW.skip ?_ | refine SW.exit ?_ | intro _ | refine And.intro (by omega) ?_) | simp (config := { maxSteps := 1000000 }) (disch := (first | omega | (simp only [go_sem]; try omega))) only [go_sem, Nat.reduceAdd, Nat.reduceEqDiff, Nat.reduceLeDiff, Nat.reduceMul, Nat.reduceLT, reduceIte, Int.reduceToNat, w64_id, cast_succ])
    (first | refine SW.condD rfl (fun h => ?_) (fun h => ?_) | refine SW.condN rfl (fun h => ?_) (fun h => ?_) | refine SW.condNB rfl (fun h => ?_) (fun h => ?_) | refine SW.condB rfl (fun h => ?_) (fun h => ?_))
    · obtain ⟨y, post, rfl, hg, -⟩ := consOf (d := 0) hp (by omega)
      repeat (first | (with_reducible first | refine SW.seq ?_ | refine SW.block ?_ | refine SW.rowC ?_ | refine SW.skip ?_ | refine SW.exit ?_ | intro _ | refine And.intro (by omega) ?_) | simp (config := { maxSteps := 1000000 }) (disch := (first | omega | (simp only [go_sem]; try omega))) only [go_sem, Nat.reduceAdd, Nat.reduceEqDiff, Nat.reduceLeDiff, Nat.reduceMul, Nat.reduceLT, reduceIte, Int.reduceToNat, w64_id, cast_succ, hg])
      refine SW.condF rfl ?_
      repeat (first | (with_reducible first | refine SW.seq ?_ | refine SW.block ?_ | refine SW.rowC ?_ | refine SW.skip ?_ | refine SW.exit ?_ | intro _ | refine And.intro (by omega) ?_) | simp (config := { maxSteps := 1000000 }) (disch := (first | omega | (simp only [go_sem]; try omega))) only [go_sem, Nat.reduceAdd, Nat.reduceEqDiff, Nat.reduceLeDiff, Nat.reduceMul, Nat.reduceLT, reduceIte, Int.reduceToNat, w64_id, cast_succ, hg, htl, htl1, htl3])
      refine SLoop.nextT 1 post.length hB (by omega) (by simp) (by simp) ?_ ?_ ⟨pre ++ [y], post, L ++ [y], ver + 1, true, by simp [hp], rfl, ?_, ?_, ?_, ?_⟩
      · (simp only [go_sem, Nat.reduceAdd, Nat.reduceEqDiff, reduceIte, go_sem, and_self, and_true, true_and, implies_true, List.take_succ_cons, List.take_zero, and_true, true_and]; try omega)
      · (simp only [go_sem, Nat.reduceAdd, Nat.reduceEqDiff, reduceIte, go_sem, and_self, and_true, true_and, implies_true, List.take_succ_cons, List.take_zero, and_true, true_and]; try omega)
      · simp [go_sem]
      · simp
      · simpa using hL
      · simp; omega
    · obtain ⟨rfl, rfl⟩ := nilOf hp (by omega)
      repeat (first | (with_reducible first | refine SW.seq ?_ | refine SW.block ?_ | refine SW.rowC ?_ | refine SW.skip ?_ | refine SW.exit ?_ | intro _ | refine And.intro (by omega) ?_) | simp (config := { maxSteps := 1000000 }) (disch := (first | omega | (simp only [go_sem]; try omega))) only [go_sem, Nat.reduceAdd, Nat.reduceEqDiff, Nat.reduceLeDiff, Nat.reduceMul, Nat.reduceLT, reduceIte, Int.reduceToNat, w64_id, cast_succ, htl])
      refine SW.condF rfl ?_
      repeat (first | (with_reducible first | refine SW.seq ?_ | refine SW.block ?_ | refine SW.rowC ?_ | refine SW.skip ?_ | refine SW.exit ?_ | intro _ | refine And.intro (by omega) ?_) | simp (config := { maxSteps := 1000000 }) (disch := (first | omega | (simp only [go_sem]; try omega))) only [go_sem, Nat.reduceAdd, Nat.reduceEqDiff, Nat.reduceLeDiff, Nat.reduceMul, Nat.reduceLT, reduceIte, Int.reduceToNat, w64_id, cast_succ, htl])
      refine SW.ret ?_; (try simp only [go_sem]); (first | refine FunPost.one ?_ | refine FunPost.two ?_ | refine FunPost.three ?_); (try simp (config := { maxSteps := 1000000 }) (disch := (first | omega | (simp only [go_sem]; try omega))) only [go_sem, Nat.reduceAdd, Nat.reduceEqDiff, Nat.reduceLeDiff, Nat.reduceMul, Nat.reduceLT, reduceIte, Int.reduceToNat, w64_id, cast_succ])
      refine GR.froz (r' := ilS (insU cmpR x pre)) ?_ ⟨rfl, rfl⟩
      rw [← hL, List.append_nil]
      exact froz_rowI (ver := ver) (ty := 2) (Nat.le_refl _) (by simp)
theorem sortU_snocR {A : Type} (cf : A → A → Int) (l : List A) (x : A) : sortU cf (l ++ [x]) = insU cf x (sortU cf l) := by unfold sortU; rw [List.foldl_append]; rfl
def manyL (xs : List Int) : Nat := (sortU cmpR xs).length
theorem l21Many_fn (xs : List Int) (hl : xs.length ≤ 100000) : PFn Try.prog f_spec_l21Many [ilS xs] (I (manyL xs)) := by
  intro H; refine ACalls.introB s_spec_l21Many (by simp) ?_; intro hB hA; unfold c_spec_l21Many; simp (config := { maxSteps := 1000000 }) (disch := (first | omega | (simp only [go_sem]; try omega))) only [go_sem, Nat.reduceAdd, Nat.reduceEqDiff, Nat.reduceLeDiff, Nat.reduceMul, Nat.reduceLT, reduceIte, Int.reduceToNat, w64_id, cast_succ]
  repeat (first | (with_reducible first | refine SW.seq ?_ | refine SW.block ?_ | refine SW.rowC ?_ | refine SW.skip ?_ | refine SW.exit ?_ | intro _ | refine And.intro (by omega) ?_) | simp (config := { maxSteps := 1000000 }) (disch := (first | omega | (simp only [go_sem]; try omega))) only [go_sem, Nat.reduceAdd, Nat.reduceEqDiff, Nat.reduceLeDiff, Nat.reduceMul, Nat.reduceLT, reduceIte, Int.reduceToNat, w64_id, cast_succ])
  refine SW.froz (E' := [(0, ilS xs), (3, ilS []), (4, I 0)]) hB (by simp) (.cons _ (ren_ilS _) (.cons _ (ren_of_frozR (froz_rowI (r := H.length) (ver := 0) (ty := 2) (xs := []) (Nat.le_refl _) (by simp))) (.cons _ (ren_I _) .nil))) ?_
  refine SW.loopE (fun E0 H0 q E' X => ∃ (pre post : List Int), xs = pre ++ post ∧ q = post.length ∧ E' = aput (aput E0 4 (I pre.length)) 3 (ilS (sortU cmpR pre)) ∧ X = H) xs.length ⟨[], xs, rfl, rfl, rfl, rfl⟩ ?_
  rintro q E' X ⟨pre, post, hpp, rfl, rfl, rfl⟩
  have hpl : pre.length ≤ 100000 := by rw [hpp] at hl; simp at hl; omega
  have hsl := sortU_len (cf := cmpR) pre
  have hsn := fun x => sortU_snocR cmpR pre x
  simp (config := { maxSteps := 1000000 }) (disch := (first | omega | (simp only [go_sem]; try omega))) only [go_sem, Nat.reduceAdd, Nat.reduceEqDiff, Nat.reduceLeDiff, Nat.reduceMul, Nat.reduceLT, reduceIte, Int.reduceToNat, w64_id, cast_succ]
  repeat (first | (with_reducible first | refine SW.seq ?_ | refine SW.block ?_ | refine SW.rowC ?_ | refine SW.skip ?_ | refine SW.exit ?_ | intro _ | refine And.intro (by omega) ?_) | simp (config := { maxSteps := 1000000 }) (disch := (first | omega | (simp only [go_sem]; try omega))) only [go_sem, Nat.reduceAdd, Nat.reduceEqDiff, Nat.reduceLeDiff, Nat.reduceMul, Nat.reduceLT, reduceIte, Int.reduceToNat, w64_id, cast_succ])
  (first | refine SW.condD rfl (fun h2 => ?_) (fun h2 => ?_) | refine SW.condN rfl (fun h2 => ?_) (fun h2 => ?_) | refine SW.condNB rfl (fun h2 => ?_) (fun h2 => ?_) | refine SW.condB rfl (fun h2 => ?_) (fun h2 => ?_))
  · obtain ⟨x, post, rfl, hg, -⟩ := consOf (d := 0) hpp (by omega)
    repeat (first | (with_reducible first | refine SW.seq ?_ | refine SW.block ?_ | refine SW.rowC ?_ | refine SW.skip ?_ | refine SW.exit ?_ | refine PFn.use (l00PutR_fn (sortU cmpR pre) x (by omega)) ?_ | refine PFn.useq (l00PutR_fn (sortU cmpR pre) x (by omega)) ?_ | intro _ | refine And.intro (by omega) ?_) | simp (config := { maxSteps := 1000000 }) (disch := (first | omega | (simp only [go_sem]; try omega))) only [go_sem, Nat.reduceAdd, Nat.reduceEqDiff, Nat.reduceLeDiff, Nat.reduceMul, Nat.reduceLT, reduceIte, Int.reduceToNat, w64_id, cast_succ, hg])
    exact SLoop.next post.length (by simp) ⟨pre ++ [x], post, by simp [hpp], rfl, by rw [hsn]; simp [go_sem], rfl⟩
  · obtain ⟨rfl, rfl⟩ := nilOf hpp (by omega)
    repeat (first | (with_reducible first | refine SW.seq ?_ | refine SW.block ?_ | refine SW.rowC ?_ | refine SW.skip ?_ | refine SW.exit ?_ | intro _ | refine And.intro (by omega) ?_) | simp (config := { maxSteps := 1000000 }) (disch := (first | omega | (simp only [go_sem]; try omega))) only [go_sem, Nat.reduceAdd, Nat.reduceEqDiff, Nat.reduceLeDiff, Nat.reduceMul, Nat.reduceLT, reduceIte, Int.reduceToNat, w64_id, cast_succ])
    refine SW.ret ?_; (try simp only [go_sem]); (first | refine FunPost.one ?_ | refine FunPost.two ?_ | refine FunPost.three ?_); (try simp (config := { maxSteps := 1000000 }) (disch := (first | omega | (simp only [go_sem]; try omega))) only [go_sem, Nat.reduceAdd, Nat.reduceEqDiff, Nat.reduceLeDiff, Nat.reduceMul, Nat.reduceLT, reduceIte, Int.reduceToNat, w64_id, cast_succ])
    exact GR.of ⟨rfl, rfl⟩
end Go.Proofs.Ytmdeibdplpodpaa
