/- Squares that are valid: the program. -/
import Derived.Test.YtflnjgeoegofdaaProg
import Derived.KernelRfl
import Derived.Test.YtflnjgeoegofdaazQ1
import Derived.Test.YtflnjgeoegofdaazK2
import Derived.Test.YtflnjgeoegofdaazK6
set_option linter.unusedSimpArgs false
set_option linter.unusedVariables false
set_option maxHeartbeats 4000000
set_option maxRecDepth 100000
namespace Go.Proofs.Ytflnjgeoegofdaa
open Go.Av
abbrev f_impl_ValidSquare : Nat := 17
def c_impl_ValidSquare : SC :=
 .seq (.reg [
     ⟨(some 2), .mv (.const (.bool false)), none⟩] [0])
 (.seq (.reg [
     ⟨(some 7), .mv (.tmp 0), none⟩,
     ⟨(some 8), .call 19 [(.tmp 7)], none⟩,
     ⟨(some 3), .mv (.tmp 8), none⟩] [0, 3])
 (.seq (.seq (.reg [
     ⟨(some 9), .mv (.tmp 3), none⟩,
     ⟨(some 10), .call 30 [(.tmp 9), (.const (.int .i64 1)), (.const (.int .i64 10))], none⟩,
     ⟨(some 11), .un .not (.tmp 10), none⟩,
     ⟨(some 12), .mv (.tmp 11), none⟩,
     ⟨(some 13), .mv (.tmp 3), (some (12, false))⟩,
     ⟨(some 14), .mv (.tmp 0), (some (12, false))⟩,
     ⟨(some 15), .call 31 [(.tmp 13), (.tmp 14)], (some (12, false))⟩,
     ⟨(some 16), .un .not (.tmp 15), (some (12, false))⟩,
     ⟨(some 17), .pick (.tmp 12) (.const (.bool true)) (.tmp 16), none⟩] [0, 17])
 (.cond (.tmp 17)
  (.seq (.reg [
      ⟨(some 2), .mv (.const (.bool false)), none⟩] [2])
  (.ret))
  (.skip)))
 (.seq (.seq (.reg [
     ⟨(some 18), .mv (.tmp 0), none⟩,
     ⟨(some 19), .len (.tmp 18), none⟩,
     ⟨(some 20), .mv (.const (.int .i64 0)), none⟩] [0, 19, 20])
 (.block 0 (.loop [0, 19, 20]
   (.seq (.reg [
       ⟨(some 21), .bin .lss (.tmp 20) (.tmp 19), none⟩] [0, 19, 20, 21])
   (.seq (.cond (.tmp 21)
    (.skip)
    (.exit 0))
   (.seq (.block 1 (.seq (.reg [
        ⟨(some 22), .mv (.tmp 20), none⟩,
        ⟨(some 4), .mv (.tmp 22), none⟩] [0, 4, 19, 20])
    (.seq (.reg [
        ⟨(some 5), .mv (.const (.slice none 0 0)), none⟩] [0, 4, 5, 19, 20])
    (.seq (.seq (.reg [
        ⟨(some 23), .mv (.tmp 0), none⟩,
        ⟨(some 24), .len (.tmp 23), none⟩,
        ⟨(some 25), .mv (.const (.int .i64 0)), none⟩] [0, 4, 5, 19, 20, 24, 25])
    (.block 2 (.loop [0, 4, 5, 19, 20, 24, 25]
      (.seq (.reg [
          ⟨(some 26), .bin .lss (.tmp 25) (.tmp 24), none⟩] [0, 4, 5, 19, 20, 24, 25, 26])
      (.seq (.cond (.tmp 26)
       (.skip)
       (.exit 2))
      (.seq (.block 3 (.seq (.reg [
           ⟨(some 27), .mv (.tmp 25), none⟩,
           ⟨(some 6), .mv (.tmp 27), none⟩] [0, 4, 5, 6, 19, 20, 24, 25])
       (.reg [
           ⟨(some 28), .mv (.tmp 5), none⟩,
           ⟨(some 29), .mv (.tmp 0), none⟩,
           ⟨(some 30), .mv (.tmp 6), none⟩,
           ⟨(some 31), .iaddr 1 (.tmp 29) (.tmp 30), none⟩,
           ⟨(some 32), .load 1 false (.tmp 31), none⟩,
           ⟨(some 33), .mv (.tmp 4), none⟩,
           ⟨(some 34), .iaddr 1 (.tmp 32) (.tmp 33), none⟩,
           ⟨(some 35), .load 1 false (.tmp 34), none⟩,
           ⟨(some 36), .bslice 2 1 1 [(.int .i64 0)] [(0, (.tmp 35))], none⟩,
           ⟨(some 37), .app 2 1 8 (.tmp 28) (.tmp 36), none⟩,
           ⟨(some 5), .mv (.tmp 37), none⟩] [0, 4, 5, 19, 20, 24, 25])))
      (.reg [
          ⟨(some 38), .bin .add (.tmp 25) (.const (.int .i64 1)), none⟩,
          ⟨(some 25), .mv (.tmp 38), none⟩] [0, 4, 5, 19, 20, 24, 25])))))))
    (.seq (.reg [
        ⟨(some 39), .mv (.tmp 5), none⟩,
        ⟨(some 40), .call 32 [(.tmp 39)], none⟩,
        ⟨(some 41), .un .not (.tmp 40), none⟩] [0, 19, 20, 41])
    (.cond (.tmp 41)
     (.seq (.reg [
         ⟨(some 2), .mv (.const (.bool false)), none⟩] [2])
     (.ret))
     (.skip)))))))
   (.reg [
       ⟨(some 42), .bin .add (.tmp 20) (.const (.int .i64 1)), none⟩,
       ⟨(some 20), .mv (.tmp 42), none⟩] [0, 19, 20])))))))
 (.seq (.reg [
     ⟨(some 2), .mv (.const (.bool true)), none⟩] [2])
 (.ret)))))
theorem s_impl_ValidSquare : stripF Try.prog 17 [[0], [0, 3], [0, 17], [2], [0, 19, 20], [0, 19, 20], [0, 19, 20, 21], [0, 4, 19, 20], [0, 4, 5, 19, 20], [0, 4, 5, 19, 20, 24, 25], [0, 4, 5, 19, 20, 24, 25], [0, 4, 5, 19, 20, 24, 25, 26], [0, 4, 5, 6, 19, 20, 24, 25], [0, 4, 5, 19, 20, 24, 25], [0, 4, 5, 19, 20, 24, 25], [0, 19, 20, 41], [2], [0, 19, 20], [2]] = some (c_impl_ValidSquare, [.tmp 2], 43) := by kernel_rfl
abbrev f_impl_arePermutations : Nat := 31
def c_impl_arePermutations : SC :=
 .seq (.reg [
     ⟨(some 2), .box 2 (.tmp 0), none⟩,
     ⟨(some 4), .mv (.const (.bool false)), none⟩] [1, 2])
 (.seq (.reg [
     ⟨(some 5), .mv (.tmp 1), none⟩,
     ⟨(some 6), .mkf 36 [(.tmp 2)], none⟩,
     ⟨(some 7), .call 35 [(.tmp 5), (.tmp 6)], none⟩,
     ⟨(some 8), .un .not (.tmp 7), none⟩,
     ⟨(some 4), .mv (.tmp 8), none⟩] [4])
 (.ret))
theorem s_impl_arePermutations : stripF Try.prog 31 [[1, 2], [4]] = some (c_impl_arePermutations, [.tmp 4], 9) := by kernel_rfl
abbrev f_impl_ValidPermutation : Nat := 32
def c_impl_ValidPermutation : SC :=
 .seq (.reg [
     ⟨(some 2), .mv (.const (.bool false)), none⟩] [0])
 (.seq (.reg [
     ⟨(some 6), .mv (.tmp 0), none⟩,
     ⟨(some 7), .call 38 [(.tmp 6)], none⟩,
     ⟨(some 3), .mv (.tmp 7), none⟩] [0, 3])
 (.seq (.reg [
     ⟨(some 8), .mv (.tmp 3), none⟩,
     ⟨(some 9), .call 39 [(.tmp 8)], none⟩] [0, 3])
 (.seq (.seq (.reg [
     ⟨(some 10), .mv (.tmp 3), none⟩,
     ⟨(some 11), .len (.tmp 10), none⟩,
     ⟨(some 12), .mv (.const (.int .i64 0)), none⟩] [0, 10, 11, 12])
 (.block 0 (.loop [0, 10, 11, 12]
   (.seq (.reg [
       ⟨(some 13), .bin .lss (.tmp 12) (.tmp 11), none⟩] [0, 10, 11, 12, 13])
   (.seq (.cond (.tmp 13)
    (.skip)
    (.exit 0))
   (.seq (.block 1 (.seq (.reg [
        ⟨(some 14), .mv (.tmp 12), none⟩,
        ⟨(some 15), .iaddr 1 (.tmp 10) (.tmp 12), none⟩,
        ⟨(some 16), .load 1 false (.tmp 15), none⟩,
        ⟨(some 4), .mv (.tmp 14), none⟩,
        ⟨(some 5), .mv (.tmp 16), none⟩] [0, 4, 5, 10, 11, 12])
    (.seq (.reg [
        ⟨(some 17), .mv (.tmp 5), none⟩,
        ⟨(some 18), .mv (.tmp 4), none⟩,
        ⟨(some 19), .bin .neq (.tmp 17) (.tmp 18), none⟩] [0, 10, 11, 12, 19])
    (.cond (.tmp 19)
     (.seq (.reg [
         ⟨(some 2), .mv (.const (.bool false)), none⟩] [2])
     (.ret))
     (.skip)))))
   (.reg [
       ⟨(some 20), .bin .add (.tmp 12) (.const (.int .i64 1)), none⟩,
       ⟨(some 12), .mv (.tmp 20), none⟩] [0, 10, 11, 12])))))))
 (.seq (.reg [
     ⟨(some 21), .mv (.tmp 0), none⟩,
     ⟨(some 22), .len (.tmp 21), none⟩,
     ⟨(some 23), .bin .leq (.tmp 22) (.const (.int .i64 32)), none⟩,
     ⟨(some 2), .mv (.tmp 23), none⟩] [2])
 (.ret)))))
theorem s_impl_ValidPermutation : stripF Try.prog 32 [[0], [0, 3], [0, 3], [0, 10, 11, 12], [0, 10, 11, 12], [0, 10, 11, 12, 13], [0, 4, 5, 10, 11, 12], [0, 10, 11, 12, 19], [2], [0, 10, 11, 12], [2]] = some (c_impl_ValidPermutation, [.tmp 2], 24) := by kernel_rfl
theorem ValidSquare_of (xss : List (List Int)) (hap : PFn Try.prog f_impl_arePermutations [I xss.length, ilSS xss] (Bv (xss.all fun p => decide ((p.length : Int) = (xss.length : Int)) && permB p)))
    (hvp : ∀ p : List Int, p.length ≤ 2000000 → PFn Try.prog f_impl_ValidPermutation [ilS p] (Bv (permB p))) : PFn Try.prog f_impl_ValidSquare [ilSS xss] (Bv (latB xss)) := by
  have hall : (xss.all fun p => decide ((p.length : Int) = (xss.length : Int)) && permB p) = xss.all (fun r => decide (r.length = xss.length) && permB r) := by
    congr 1; funext p; congr 1; exact decide_eq_decide.2 (by omega)
  rw [hall] at hap
  by_cases hs : ¬ (1 ≤ xss.length ∧ xss.length ≤ 10)
  · have hF : latB xss = false := by unfold latB; rw [decide_eq_false hs]; rfl
    have hw := within_fn (xss.length : Int) 1 10
    rw [show (decide ((1 : Int) ≤ (xss.length : Int)) && decide ((xss.length : Int) ≤ 10)) = false by
      rw [Bool.and_eq_false_iff, decide_eq_false_iff_not, decide_eq_false_iff_not]; omega] at hw
    intro H; refine ACalls.introB s_impl_ValidSquare (by simp) ?_; intro hB hA; unfold c_impl_ValidSquare; simp (config := { maxSteps := 1000000 }) (disch := (first | omega | (simp only [go_sem]; try omega))) only [go_sem, Nat.reduceAdd, Nat.reduceEqDiff, Nat.reduceLeDiff, Nat.reduceMul, Nat.reduceLT, reduceIte, Int.reduceToNat, w64_id, cast_succ]
    repeat (first | (with_reducible first | refine SW.seq ?_ | refine SW.block ?_ | refine SW.rowC ?_ | refine SW.skip ?_ | refine SW.exit ?_ | refine PFn.use (sizeS_fn _) ?_ | refine PFn.useq (sizeS_fn _) ?_ | refine PFn.use (hw) ?_ | refine PFn.useq (hw) ?_ | intro _ | refine And.intro (by omega) ?_) | simp (config := { maxSteps := 1000000 }) (disch := (first | omega | (simp only [go_sem]; try omega))) only [go_sem, Nat.reduceAdd, Nat.reduceEqDiff, Nat.reduceLeDiff, Nat.reduceMul, Nat.reduceLT, reduceIte, Int.reduceToNat, w64_id, cast_succ])
    refine SW.condT rfl ?_
    repeat (first | (with_reducible first | refine SW.seq ?_ | refine SW.block ?_ | refine SW.rowC ?_ | refine SW.skip ?_ | refine SW.exit ?_ | intro _ | refine And.intro (by omega) ?_) | simp (config := { maxSteps := 1000000 }) (disch := (first | omega | (simp only [go_sem]; try omega))) only [go_sem, Nat.reduceAdd, Nat.reduceEqDiff, Nat.reduceLeDiff, Nat.reduceMul, Nat.reduceLT, reduceIte, Int.reduceToNat, w64_id, cast_succ])
    refine SW.ret ?_; (try simp only [go_sem]); (first | refine FunPost.one ?_ | refine FunPost.two ?_ | refine FunPost.three ?_); (try simp (config := { maxSteps := 1000000 }) (disch := (first | omega | (simp only [go_sem]; try omega))) only [go_sem, Nat.reduceAdd, Nat.reduceEqDiff, Nat.reduceLeDiff, Nat.reduceMul, Nat.reduceLT, reduceIte, Int.reduceToNat, w64_id, cast_succ]); (first | (with_reducible refine GR.drop ?_ ?_; (simp only [go_sem, and_self, and_true, true_and, implies_true, List.take_succ_cons, List.take_zero])) | refine GR.of ?_); refine ⟨?_, rfl⟩; (try with_reducible rfl)
    rw [hF]
  replace hs := Decidable.not_not.1 hs
  have hw := within_fn (xss.length : Int) 1 10
  rw [show (decide ((1 : Int) ≤ (xss.length : Int)) && decide ((xss.length : Int) ≤ 10)) = true by
    rw [Bool.and_eq_true, decide_eq_true_eq, decide_eq_true_eq]; omega] at hw
  by_cases ha : xss.all (fun r => decide (r.length = xss.length) && permB r) = true
  rotate_left
  · rw [Bool.not_eq_true] at ha
    have hF : latB xss = false := by unfold latB; rw [ha, Bool.and_false]; rfl
    rw [ha] at hap
    intro H; refine ACalls.introB s_impl_ValidSquare (by simp) ?_; intro hB hA; unfold c_impl_ValidSquare; simp (config := { maxSteps := 1000000 }) (disch := (first | omega | (simp only [go_sem]; try omega))) only [go_sem, Nat.reduceAdd, Nat.reduceEqDiff, Nat.reduceLeDiff, Nat.reduceMul, Nat.reduceLT, reduceIte, Int.reduceToNat, w64_id, cast_succ]
    repeat (first | (with_reducible first | refine SW.seq ?_ | refine SW.block ?_ | refine SW.rowC ?_ | refine SW.skip ?_ | refine SW.exit ?_ | refine PFn.use (sizeS_fn _) ?_ | refine PFn.useq (sizeS_fn _) ?_ | refine PFn.use (hw) ?_ | refine PFn.useq (hw) ?_ | refine PFn.use (hap) ?_ | refine PFn.useq (hap) ?_ | intro _ | refine And.intro (by omega) ?_) | simp (config := { maxSteps := 1000000 }) (disch := (first | omega | (simp only [go_sem]; try omega))) only [go_sem, Nat.reduceAdd, Nat.reduceEqDiff, Nat.reduceLeDiff, Nat.reduceMul, Nat.reduceLT, reduceIte, Int.reduceToNat, w64_id, cast_succ])
    refine SW.condT rfl ?_
    repeat (first | (with_reducible first | refine SW.seq ?_ | refine SW.block ?_ | refine SW.rowC ?_ | refine SW.skip ?_ | refine SW.exit ?_ | intro _ | refine And.intro (by omega) ?_) | simp (config := { maxSteps := 1000000 }) (disch := (first | omega | (simp only [go_sem]; try omega))) only [go_sem, Nat.reduceAdd, Nat.reduceEqDiff, Nat.reduceLeDiff, Nat.reduceMul, Nat.reduceLT, reduceIte, Int.reduceToNat, w64_id, cast_succ])
    refine SW.ret ?_; (try simp only [go_sem]); (first | refine FunPost.one ?_ | refine FunPost.two ?_ | refine FunPost.three ?_); (try simp (config := { maxSteps := 1000000 }) (disch := (first | omega | (simp only [go_sem]; try omega))) only [go_sem, Nat.reduceAdd, Nat.reduceEqDiff, Nat.reduceLeDiff, Nat.reduceMul, Nat.reduceLT, reduceIte, Int.reduceToNat, w64_id, cast_succ]); (first | (with_reducible refine GR.drop ?_ ?_; (simp only [go_sem, and_self, and_true, true_and, implies_true, List.take_succ_cons, List.take_zero])) | refine GR.of ?_); refine ⟨?_, rfl⟩; (try with_reducible rfl)
    rw [hF]
  rw [ha] at hap
  intro H; refine ACalls.introB s_impl_ValidSquare (by simp) ?_; intro hB hA; unfold c_impl_ValidSquare; simp (config := { maxSteps := 1000000 }) (disch := (first | omega | (simp only [go_sem]; try omega))) only [go_sem, Nat.reduceAdd, Nat.reduceEqDiff, Nat.reduceLeDiff, Nat.reduceMul, Nat.reduceLT, reduceIte, Int.reduceToNat, w64_id, cast_succ]
  repeat (first | (with_reducible first | refine SW.seq ?_ | refine SW.block ?_ | refine SW.rowC ?_ | refine SW.skip ?_ | refine SW.exit ?_ | refine PFn.use (sizeS_fn _) ?_ | refine PFn.useq (sizeS_fn _) ?_ | refine PFn.use (hw) ?_ | refine PFn.useq (hw) ?_ | refine PFn.use (hap) ?_ | refine PFn.useq (hap) ?_ | intro _ | refine And.intro (by omega) ?_) | simp (config := { maxSteps := 1000000 }) (disch := (first | omega | (simp only [go_sem]; try omega))) only [go_sem, Nat.reduceAdd, Nat.reduceEqDiff, Nat.reduceLeDiff, Nat.reduceMul, Nat.reduceLT, reduceIte, Int.reduceToNat, w64_id, cast_succ])
  refine SW.condF rfl ?_
  repeat (first | (with_reducible first | refine SW.seq ?_ | refine SW.block ?_ | refine SW.rowC ?_ | refine SW.skip ?_ | refine SW.exit ?_ | intro _ | refine And.intro (by omega) ?_) | simp (config := { maxSteps := 1000000 }) (disch := (first | omega | (simp only [go_sem]; try omega))) only [go_sem, Nat.reduceAdd, Nat.reduceEqDiff, Nat.reduceLeDiff, Nat.reduceMul, Nat.reduceLT, reduceIte, Int.reduceToNat, w64_id, cast_succ])
  refine SW.loopE (fun E0 H0 q E' H' => ∃ (y : Nat), y ≤ xss.length ∧ q = xss.length - y ∧ E' = aput E0 20 (I y) ∧ H' = H0 ∧ (List.range y).all (fun y => permB (colV xss y)) = true) xss.length ⟨0, by omega, by omega, rfl, rfl, rfl⟩ ?_
  rintro q E' H' ⟨y, hy, rfl, rfl, rfl, hc⟩
  have hrl : ∀ r ∈ xss, r.length = xss.length := fun r hr => by
    have := List.all_eq_true.1 ha r hr
    simp at this; exact this.1
  simp (config := { maxSteps := 1000000 }) (disch := (first | omega | (simp only [go_sem]; try omega))) only [go_sem, Nat.reduceAdd, Nat.reduceEqDiff, Nat.reduceLeDiff, Nat.reduceMul, Nat.reduceLT, reduceIte, Int.reduceToNat, w64_id, cast_succ]
  repeat (first | (with_reducible first | refine SW.seq ?_ | refine SW.block ?_ | refine SW.rowC ?_ | refine SW.skip ?_ | refine SW.exit ?_ | intro _ | refine And.intro (by omega) ?_) | simp (config := { maxSteps := 1000000 }) (disch := (first | omega | (simp only [go_sem]; try omega))) only [go_sem, Nat.reduceAdd, Nat.reduceEqDiff, Nat.reduceLeDiff, Nat.reduceMul, Nat.reduceLT, reduceIte, Int.reduceToNat, w64_id, cast_succ])
  (first | refine SW.condD rfl (fun h3 => ?_) (fun h3 => ?_) | refine SW.condN rfl (fun h3 => ?_) (fun h3 => ?_) | refine SW.condNB rfl (fun h3 => ?_) (fun h3 => ?_) | refine SW.condB rfl (fun h3 => ?_) (fun h3 => ?_))
  · repeat (first | (with_reducible first | refine SW.seq ?_ | refine SW.block ?_ | refine SW.rowC ?_ | refine SW.skip ?_ | refine SW.exit ?_ | intro _ | refine And.intro (by omega) ?_) | simp (config := { maxSteps := 1000000 }) (disch := (first | omega | (simp only [go_sem]; try omega))) only [go_sem, Nat.reduceAdd, Nat.reduceEqDiff, Nat.reduceLeDiff, Nat.reduceMul, Nat.reduceLT, reduceIte, Int.reduceToNat, w64_id, cast_succ])
    refine SW.ghost (Gh.name 5 2 1 rfl) ?_
    simp (config := { maxSteps := 1000000 }) (disch := (first | omega | (simp only [go_sem]; try omega))) only [go_sem, Nat.reduceAdd, Nat.reduceEqDiff, Nat.reduceLeDiff, Nat.reduceMul, Nat.reduceLT, reduceIte, Int.reduceToNat, w64_id, cast_succ]
    refine SW.loopE (fun E0 H0 q E' H2 => ∃ (pr po : List (List Int)) (ver : Nat), xss = pr ++ po ∧ q = po.length ∧ E' = aput (aput E0 25 (I pr.length)) 5 (.nm H'.length ver 0 (colV pr y).length) ∧ H2 = H' ++ [⟨ver, 2, 1, (colV pr y).map I⟩]) xss.length ⟨[], xss, 0, rfl, rfl, rfl, rfl⟩ ?_
    rintro q E' H2 ⟨pr, po, ver, hp, rfl, rfl, rfl⟩
    have hcs : ∀ r, colV (pr ++ [r]) y = colV pr y ++ [r.getD y 0] := fun r => by simp [colV]
    have hcl : (colV pr y).length = pr.length := by simp [colV]
    generalize hM : colV pr y = M at *
    simp (config := { maxSteps := 1000000 }) (disch := (first | omega | (simp only [go_sem]; try omega))) only [go_sem, Nat.reduceAdd, Nat.reduceEqDiff, Nat.reduceLeDiff, Nat.reduceMul, Nat.reduceLT, reduceIte, Int.reduceToNat, w64_id, cast_succ]
    repeat (first | (with_reducible first | refine SW.seq ?_ | refine SW.block ?_ | refine SW.rowC ?_ | refine SW.skip ?_ | refine SW.exit ?_ | intro _ | refine And.intro (by omega) ?_) | simp (config := { maxSteps := 1000000 }) (disch := (first | omega | (simp only [go_sem]; try omega))) only [go_sem, Nat.reduceAdd, Nat.reduceEqDiff, Nat.reduceLeDiff, Nat.reduceMul, Nat.reduceLT, reduceIte, Int.reduceToNat, w64_id, cast_succ])
    (first | refine SW.condD rfl (fun h4 => ?_) (fun h4 => ?_) | refine SW.condN rfl (fun h4 => ?_) (fun h4 => ?_) | refine SW.condNB rfl (fun h4 => ?_) (fun h4 => ?_) | refine SW.condB rfl (fun h4 => ?_) (fun h4 => ?_))
    · obtain ⟨r, po, rfl, hg2, -⟩ := consOf (d := []) hp (by omega)
      have hry := hrl r (by rw [hp]; simp)
      have hpl : pr.length < 10 := by rw [hp] at hs; simp at hs; omega
      repeat (first | (with_reducible first | refine SW.seq ?_ | refine SW.block ?_ | refine SW.rowC ?_ | refine SW.skip ?_ | refine SW.exit ?_ | intro _ | refine And.intro (by omega) ?_) | simp (config := { maxSteps := 1000000 }) (disch := (first | omega | (simp only [go_sem]; try omega))) only [go_sem, Nat.reduceAdd, Nat.reduceEqDiff, Nat.reduceLeDiff, Nat.reduceMul, Nat.reduceLT, reduceIte, Int.reduceToNat, w64_id, cast_succ, hg2])
      refine SLoop.nextT 1 po.length hB (by omega) (by simp) (by simp) ?_ ?_ ⟨pr ++ [r], po, ver + 1, by simp [hp], rfl, ?_, ?_⟩
      · (simp only [go_sem, Nat.reduceAdd, Nat.reduceEqDiff, reduceIte, go_sem, and_self, and_true, true_and, implies_true, List.take_succ_cons, List.take_zero, and_true, true_and]; try omega)
      · (simp only [go_sem, Nat.reduceAdd, Nat.reduceEqDiff, reduceIte, go_sem, and_self, and_true, true_and, implies_true, List.take_succ_cons, List.take_zero, and_true, true_and]; try omega)
      · simp [go_sem, hcs, hcl]
      · rw [hcs]; simp
    · obtain ⟨rfl, rfl⟩ := nilOf hp (by omega)
      repeat (first | (with_reducible first | refine SW.seq ?_ | refine SW.block ?_ | refine SW.rowC ?_ | refine SW.skip ?_ | refine SW.exit ?_ | intro _ | refine And.intro (by omega) ?_) | simp (config := { maxSteps := 1000000 }) (disch := (first | omega | (simp only [go_sem]; try omega))) only [go_sem, Nat.reduceAdd, Nat.reduceEqDiff, Nat.reduceLeDiff, Nat.reduceMul, Nat.reduceLT, reduceIte, Int.reduceToNat, w64_id, cast_succ])
      refine PFn.usel (hvp M (by omega)) (.cons (froz_rowI (ver := ver) (ty := 2) (Nat.zero_le _) (by simp)) .nil) ?_
      cases hpm : permB M with
      | true =>
        repeat (first | (with_reducible first | refine SW.seq ?_ | refine SW.block ?_ | refine SW.rowC ?_ | refine SW.skip ?_ | refine SW.exit ?_ | intro _ | refine And.intro (by omega) ?_) | simp (config := { maxSteps := 1000000 }) (disch := (first | omega | (simp only [go_sem]; try omega))) only [go_sem, Nat.reduceAdd, Nat.reduceEqDiff, Nat.reduceLeDiff, Nat.reduceMul, Nat.reduceLT, reduceIte, Int.reduceToNat, w64_id, cast_succ])
        refine SW.condF rfl ?_
        repeat (first | (with_reducible first | refine SW.seq ?_ | refine SW.block ?_ | refine SW.rowC ?_ | refine SW.skip ?_ | refine SW.exit ?_ | intro _ | refine And.intro (by omega) ?_) | simp (config := { maxSteps := 1000000 }) (disch := (first | omega | (simp only [go_sem]; try omega))) only [go_sem, Nat.reduceAdd, Nat.reduceEqDiff, Nat.reduceLeDiff, Nat.reduceMul, Nat.reduceLT, reduceIte, Int.reduceToNat, w64_id, cast_succ])
        refine SLoop.nextT 0 (pr.length - (y + 1)) hB (by omega) (by omega) (by simp) ?_ ?_ ⟨y + 1, by omega, rfl, by simp [go_sem], by simp, ?_⟩
        · (simp only [go_sem, Nat.reduceAdd, Nat.reduceEqDiff, reduceIte, go_sem, and_self, and_true, true_and, implies_true, List.take_succ_cons, List.take_zero, and_true, true_and]; try omega)
        · (simp only [go_sem, Nat.reduceAdd, Nat.reduceEqDiff, reduceIte, go_sem, and_self, and_true, true_and, implies_true, List.take_succ_cons, List.take_zero, and_true, true_and]; try omega)
        rw [List.range_succ, List.all_append, hc]; simp [hM, hpm]
      | false =>
        have hF : latB pr = false := by
          have : (List.range pr.length).all (fun y => permB (colV pr y)) = false := by
            rw [List.all_eq_false]
            exact ⟨y, by simp; omega, by rw [hM, hpm]; simp⟩
          unfold latB; rw [this]; simp
        repeat (first | (with_reducible first | refine SW.seq ?_ | refine SW.block ?_ | refine SW.rowC ?_ | refine SW.skip ?_ | refine SW.exit ?_ | intro _ | refine And.intro (by omega) ?_) | simp (config := { maxSteps := 1000000 }) (disch := (first | omega | (simp only [go_sem]; try omega))) only [go_sem, Nat.reduceAdd, Nat.reduceEqDiff, Nat.reduceLeDiff, Nat.reduceMul, Nat.reduceLT, reduceIte, Int.reduceToNat, w64_id, cast_succ])
        refine SW.condT rfl ?_
        repeat (first | (with_reducible first | refine SW.seq ?_ | refine SW.block ?_ | refine SW.rowC ?_ | refine SW.skip ?_ | refine SW.exit ?_ | intro _ | refine And.intro (by omega) ?_) | simp (config := { maxSteps := 1000000 }) (disch := (first | omega | (simp only [go_sem]; try omega))) only [go_sem, Nat.reduceAdd, Nat.reduceEqDiff, Nat.reduceLeDiff, Nat.reduceMul, Nat.reduceLT, reduceIte, Int.reduceToNat, w64_id, cast_succ])
        refine SW.ret ?_; (try simp only [go_sem]); (first | refine FunPost.one ?_ | refine FunPost.two ?_ | refine FunPost.three ?_); (try simp (config := { maxSteps := 1000000 }) (disch := (first | omega | (simp only [go_sem]; try omega))) only [go_sem, Nat.reduceAdd, Nat.reduceEqDiff, Nat.reduceLeDiff, Nat.reduceMul, Nat.reduceLT, reduceIte, Int.reduceToNat, w64_id, cast_succ]); (first | (with_reducible refine GR.drop ?_ ?_; (simp only [go_sem, and_self, and_true, true_and, implies_true, List.take_succ_cons, List.take_zero])) | refine GR.of ?_); refine ⟨?_, rfl⟩; (try with_reducible rfl)
        rw [hF]
  · have : y = xss.length := by omega
    subst this
    repeat (first | (with_reducible first | refine SW.seq ?_ | refine SW.block ?_ | refine SW.rowC ?_ | refine SW.skip ?_ | refine SW.exit ?_ | intro _ | refine And.intro (by omega) ?_) | simp (config := { maxSteps := 1000000 }) (disch := (first | omega | (simp only [go_sem]; try omega))) only [go_sem, Nat.reduceAdd, Nat.reduceEqDiff, Nat.reduceLeDiff, Nat.reduceMul, Nat.reduceLT, reduceIte, Int.reduceToNat, w64_id, cast_succ])
    refine SW.ret ?_; (try simp only [go_sem]); (first | refine FunPost.one ?_ | refine FunPost.two ?_ | refine FunPost.three ?_); (try simp (config := { maxSteps := 1000000 }) (disch := (first | omega | (simp only [go_sem]; try omega))) only [go_sem, Nat.reduceAdd, Nat.reduceEqDiff, Nat.reduceLeDiff, Nat.reduceMul, Nat.reduceLT, reduceIte, Int.reduceToNat, w64_id, cast_succ]); (first | (with_reducible refine GR.drop ?_ ?_; (simp only [go_sem, and_self, and_true, true_and, implies_true, List.take_succ_cons, List.take_zero])) | refine GR.of ?_); refine ⟨?_, rfl⟩; (try with_reducible rfl)
    unfold latB; rw [decide_eq_true hs, ha, hc]; rfl
end Go.Proofs.Ytflnjgeoegofdaa
