/- Images of sets and of systems: both ways. -/
import Derived.Test.YtmdeibdplpodpaaGreatProg
import Derived.KernelRfl
import Derived.Test.YtmdeibdplpodpaaGreatzK61
import Derived.Test.YtmdeibdplpodpaaGreatzK50
import Derived.Test.YtmdeibdplpodpaaGreatzK8
set_option linter.unusedSimpArgs false
set_option linter.unusedVariables false
set_option maxHeartbeats 4000000
set_option maxRecDepth 100000
namespace Go.Proofs.YtmdeibdplpodpaaGreat
open Go.Av
abbrev f_spec_l27Image : Nat := 73
def c_spec_l27Image : SC :=
 .seq (.reg [
     ⟨(some 4), .mv (.const (.slice none 0 0)), none⟩] [0, 1])
 (.seq (.reg [
     ⟨(some 7), .bslice 22 1 0 [] [], none⟩,
     ⟨(some 5), .mv (.tmp 7), none⟩] [0, 1, 5])
 (.seq (.seq (.reg [
     ⟨(some 6), .mv (.const (.int .i64 0)), none⟩] [0, 1, 5, 6])
 (.block 0 (.loop [0, 1, 5, 6]
   (.seq (.seq (.reg [
       ⟨(some 8), .mv (.tmp 6), none⟩,
       ⟨(some 9), .mv (.tmp 1), none⟩,
       ⟨(some 10), .len (.tmp 9), none⟩,
       ⟨(some 11), .bin .lss (.tmp 8) (.tmp 10), none⟩] [0, 1, 5, 6, 11])
   (.cond (.tmp 11)
    (.skip)
    (.exit 0)))
   (.seq (.block 1 (.reg [
        ⟨(some 14), .mv (.tmp 5), none⟩,
        ⟨(some 15), .mv (.tmp 0), none⟩,
        ⟨(some 16), .mv (.tmp 1), none⟩,
        ⟨(some 17), .mv (.tmp 6), none⟩,
        ⟨(some 18), .iaddr 1 (.tmp 16) (.tmp 17), none⟩,
        ⟨(some 19), .load 1 false (.tmp 18), none⟩,
        ⟨(some 20), .call 108 [(.tmp 15), (.tmp 19)], none⟩,
        ⟨(some 21), .call 44 [(.tmp 14), (.tmp 20)], none⟩,
        ⟨(some 5), .mv (.tmp 21), none⟩] [0, 1, 5, 6]))
   (.reg [
       ⟨(some 12), .mv (.tmp 6), none⟩,
       ⟨(some 13), .bin .add (.tmp 12) (.const (.int .i64 1)), none⟩,
       ⟨(some 6), .mv (.tmp 13), none⟩] [0, 1, 5, 6]))))))
 (.seq (.reg [
     ⟨(some 22), .mv (.tmp 5), none⟩,
     ⟨(some 4), .mv (.tmp 22), none⟩] [4])
 (.ret))))
theorem s_spec_l27Image : stripF Tryz.prog 73 [[0, 1], [0, 1, 5], [0, 1, 5, 6], [0, 1, 5, 6], [0, 1, 5, 6, 11], [0, 1, 5, 6], [0, 1, 5, 6], [4]] = some (c_spec_l27Image, [.tmp 4], 23) := by kernel_rfl
abbrev f_spec_l04Image : Nat := 108
def c_spec_l04Image : SC :=
 .seq (.reg [
     ⟨(some 4), .mv (.const (.slice none 0 0)), none⟩] [0, 1])
 (.seq (.reg [
     ⟨(some 7), .bslice 2 1 0 [] [], none⟩,
     ⟨(some 5), .mv (.tmp 7), none⟩] [0, 1, 5])
 (.seq (.seq (.reg [
     ⟨(some 6), .mv (.const (.int .i64 0)), none⟩] [0, 1, 5, 6])
 (.block 0 (.loop [0, 1, 5, 6]
   (.seq (.seq (.reg [
       ⟨(some 8), .mv (.tmp 6), none⟩,
       ⟨(some 9), .mv (.tmp 1), none⟩,
       ⟨(some 10), .len (.tmp 9), none⟩,
       ⟨(some 11), .bin .lss (.tmp 8) (.tmp 10), none⟩] [0, 1, 5, 6, 11])
   (.cond (.tmp 11)
    (.skip)
    (.exit 0)))
   (.seq (.block 1 (.reg [
        ⟨(some 14), .mv (.tmp 5), none⟩,
        ⟨(some 15), .mv (.tmp 0), none⟩,
        ⟨(some 16), .mv (.tmp 1), none⟩,
        ⟨(some 17), .mv (.tmp 6), none⟩,
        ⟨(some 18), .iaddr 1 (.tmp 16) (.tmp 17), none⟩,
        ⟨(some 19), .load 1 false (.tmp 18), none⟩,
        ⟨(some 20), .iaddr 1 (.tmp 15) (.tmp 19), none⟩,
        ⟨(some 21), .load 1 false (.tmp 20), none⟩,
        ⟨(some 22), .call 139 [(.tmp 14), (.tmp 21)], none⟩,
        ⟨(some 5), .mv (.tmp 22), none⟩] [0, 1, 5, 6]))
   (.reg [
       ⟨(some 12), .mv (.tmp 6), none⟩,
       ⟨(some 13), .bin .add (.tmp 12) (.const (.int .i64 1)), none⟩,
       ⟨(some 6), .mv (.tmp 13), none⟩] [0, 1, 5, 6]))))))
 (.seq (.reg [
     ⟨(some 23), .mv (.tmp 5), none⟩,
     ⟨(some 4), .mv (.tmp 23), none⟩] [4])
 (.ret))))
theorem s_spec_l04Image : stripF Tryz.prog 108 [[0, 1], [0, 1, 5], [0, 1, 5, 6], [0, 1, 5, 6], [0, 1, 5, 6, 11], [0, 1, 5, 6], [0, 1, 5, 6], [4]] = some (c_spec_l04Image, [.tmp 4], 24) := by kernel_rfl
abbrev f_impl_systemImage : Nat := 118
def c_impl_systemImage : SC :=
 .seq (.reg [
     ⟨(some 4), .mv (.const (.slice none 0 0)), none⟩] [0, 1])
 (.seq (.reg [
     ⟨(some 5), .mv (.const (.slice none 0 0)), none⟩] [0, 1, 5])
 (.seq (.seq (.reg [
     ⟨(some 8), .mv (.tmp 1), none⟩,
     ⟨(some 9), .len (.tmp 8), none⟩,
     ⟨(some 10), .mv (.const (.int .i64 0)), none⟩] [0, 5, 8, 9, 10])
 (.block 0 (.loop [0, 5, 8, 9, 10]
   (.seq (.reg [
       ⟨(some 11), .bin .lss (.tmp 10) (.tmp 9), none⟩] [0, 5, 8, 9, 10, 11])
   (.seq (.cond (.tmp 11)
    (.skip)
    (.exit 0))
   (.seq (.block 1 (.seq (.reg [
        ⟨(some 12), .iaddr 1 (.tmp 8) (.tmp 10), none⟩,
        ⟨(some 13), .load 1 false (.tmp 12), none⟩,
        ⟨(some 7), .mv (.tmp 13), none⟩] [0, 5, 7, 8, 9, 10])
    (.reg [
        ⟨(some 14), .mv (.tmp 5), none⟩,
        ⟨(some 15), .mv (.tmp 0), none⟩,
        ⟨(some 16), .mv (.tmp 7), none⟩,
        ⟨(some 17), .call 156 [(.tmp 15), (.tmp 16)], none⟩,
        ⟨(some 18), .bslice 22 1 1 [(.slice none 0 0)] [(0, (.tmp 17))], none⟩,
        ⟨(some 19), .app 22 1 24 (.tmp 14) (.tmp 18), none⟩,
        ⟨(some 5), .mv (.tmp 19), none⟩] [0, 5, 8, 9, 10])))
   (.reg [
       ⟨(some 20), .bin .add (.tmp 10) (.const (.int .i64 1)), none⟩,
       ⟨(some 10), .mv (.tmp 20), none⟩] [0, 5, 8, 9, 10])))))))
 (.seq (.reg [
     ⟨(some 21), .mv (.tmp 5), none⟩,
     ⟨(some 22), .call 79 [(.tmp 21), (.func 80)], none⟩] [5])
 (.seq (.reg [
     ⟨(some 23), .mv (.tmp 5), none⟩,
     ⟨(some 4), .mv (.tmp 23), none⟩] [4])
 (.ret)))))
theorem s_impl_systemImage : stripF Tryz.prog 118 [[0, 1], [0, 1, 5], [0, 5, 8, 9, 10], [0, 5, 8, 9, 10], [0, 5, 8, 9, 10, 11], [0, 5, 7, 8, 9, 10], [0, 5, 8, 9, 10], [0, 5, 8, 9, 10], [5], [4]] = some (c_impl_systemImage, [.tmp 4], 24) := by kernel_rfl
abbrev f_spec_l00Put : Nat := 139
def c_spec_l00Put : SC :=
 .seq (.reg [
     ⟨(some 4), .mv (.const (.slice none 0 0)), none⟩] [0, 1])
 (.seq (.reg [
     ⟨(some 8), .bslice 2 1 0 [] [], none⟩,
     ⟨(some 5), .mv (.tmp 8), none⟩] [0, 1, 5])
 (.seq (.reg [
     ⟨(some 6), .mv (.const (.bool false)), none⟩] [0, 1, 5, 6])
 (.seq (.seq (.reg [
     ⟨(some 7), .mv (.const (.int .i64 0)), none⟩] [0, 1, 5, 6, 7])
 (.block 0 (.loop [0, 1, 5, 6, 7]
   (.seq (.seq (.reg [
       ⟨(some 9), .mv (.tmp 7), none⟩,
       ⟨(some 10), .mv (.tmp 0), none⟩,
       ⟨(some 11), .len (.tmp 10), none⟩,
       ⟨(some 12), .bin .lss (.tmp 9) (.tmp 11), none⟩] [0, 1, 5, 6, 7, 12])
   (.cond (.tmp 12)
    (.skip)
    (.exit 0)))
   (.seq (.block 1 (.seq (.seq (.reg [
        ⟨(some 15), .mv (.tmp 6), none⟩,
        ⟨(some 16), .un .not (.tmp 15), none⟩,
        ⟨(some 17), .mv (.tmp 16), none⟩,
        ⟨(some 18), .mv (.tmp 0), (some (17, true))⟩,
        ⟨(some 19), .mv (.tmp 7), (some (17, true))⟩,
        ⟨(some 20), .iaddr 1 (.tmp 18) (.tmp 19), (some (17, true))⟩,
        ⟨(some 21), .load 1 false (.tmp 20), (some (17, true))⟩,
        ⟨(some 22), .mv (.tmp 1), (some (17, true))⟩,
        ⟨(some 23), .bin .geq (.tmp 21) (.tmp 22), (some (17, true))⟩,
        ⟨(some 24), .pick (.tmp 17) (.tmp 23) (.const (.bool false)), none⟩] [0, 1, 5, 6, 7, 24])
    (.cond (.tmp 24)
     (.seq (.reg [
         ⟨(some 6), .mv (.const (.bool true)), none⟩] [0, 1, 5, 6, 7])
     (.seq (.reg [
         ⟨(some 25), .mv (.tmp 0), none⟩,
         ⟨(some 26), .mv (.tmp 7), none⟩,
         ⟨(some 27), .iaddr 1 (.tmp 25) (.tmp 26), none⟩,
         ⟨(some 28), .load 1 false (.tmp 27), none⟩,
         ⟨(some 29), .mv (.tmp 1), none⟩,
         ⟨(some 30), .bin .gtr (.tmp 28) (.tmp 29), none⟩] [0, 1, 5, 6, 7, 30])
     (.cond (.tmp 30)
      (.reg [
          ⟨(some 31), .mv (.tmp 5), none⟩,
          ⟨(some 32), .mv (.tmp 1), none⟩,
          ⟨(some 33), .bslice 2 1 1 [(.int .i64 0)] [(0, (.tmp 32))], none⟩,
          ⟨(some 34), .app 2 1 8 (.tmp 31) (.tmp 33), none⟩,
          ⟨(some 5), .mv (.tmp 34), none⟩] [0, 1, 5, 6, 7])
      (.skip))))
     (.skip)))
    (.reg [
        ⟨(some 35), .mv (.tmp 5), none⟩,
        ⟨(some 36), .mv (.tmp 0), none⟩,
        ⟨(some 37), .mv (.tmp 7), none⟩,
        ⟨(some 38), .iaddr 1 (.tmp 36) (.tmp 37), none⟩,
        ⟨(some 39), .load 1 false (.tmp 38), none⟩,
        ⟨(some 40), .bslice 2 1 1 [(.int .i64 0)] [(0, (.tmp 39))], none⟩,
        ⟨(some 41), .app 2 1 8 (.tmp 35) (.tmp 40), none⟩,
        ⟨(some 5), .mv (.tmp 41), none⟩] [0, 1, 5, 6, 7])))
   (.reg [
       ⟨(some 13), .mv (.tmp 7), none⟩,
       ⟨(some 14), .bin .add (.tmp 13) (.const (.int .i64 1)), none⟩,
       ⟨(some 7), .mv (.tmp 14), none⟩] [0, 1, 5, 6, 7]))))))
 (.seq (.seq (.reg [
     ⟨(some 42), .mv (.tmp 6), none⟩,
     ⟨(some 43), .un .not (.tmp 42), none⟩] [1, 5, 43])
 (.cond (.tmp 43)
  (.reg [
      ⟨(some 44), .mv (.tmp 5), none⟩,
      ⟨(some 45), .mv (.tmp 1), none⟩,
      ⟨(some 46), .bslice 2 1 1 [(.int .i64 0)] [(0, (.tmp 45))], none⟩,
      ⟨(some 47), .app 2 1 8 (.tmp 44) (.tmp 46), none⟩,
      ⟨(some 5), .mv (.tmp 47), none⟩] [5])
  (.skip)))
 (.seq (.reg [
     ⟨(some 48), .mv (.tmp 5), none⟩,
     ⟨(some 4), .mv (.tmp 48), none⟩] [4])
 (.ret))))))
theorem s_spec_l00Put : stripF Tryz.prog 139 [[0, 1], [0, 1, 5], [0, 1, 5, 6], [0, 1, 5, 6, 7], [0, 1, 5, 6, 7], [0, 1, 5, 6, 7, 12], [0, 1, 5, 6, 7, 24], [0, 1, 5, 6, 7], [0, 1, 5, 6, 7, 30], [0, 1, 5, 6, 7], [0, 1, 5, 6, 7], [0, 1, 5, 6, 7], [1, 5, 43], [5], [4]] = some (c_spec_l00Put, [.tmp 4], 49) := by kernel_rfl
abbrev f_impl_image : Nat := 156
def c_impl_image : SC :=
 .seq (.reg [
     ⟨(some 4), .mv (.const (.slice none 0 0)), none⟩] [0, 1])
 (.seq (.reg [
     ⟨(some 5), .mv (.const (.slice none 0 0)), none⟩] [0, 1, 5])
 (.seq (.seq (.reg [
     ⟨(some 8), .mv (.tmp 1), none⟩,
     ⟨(some 9), .len (.tmp 8), none⟩,
     ⟨(some 10), .mv (.const (.int .i64 0)), none⟩] [0, 5, 8, 9, 10])
 (.block 0 (.loop [0, 5, 8, 9, 10]
   (.seq (.reg [
       ⟨(some 11), .bin .lss (.tmp 10) (.tmp 9), none⟩] [0, 5, 8, 9, 10, 11])
   (.seq (.cond (.tmp 11)
    (.skip)
    (.exit 0))
   (.seq (.block 1 (.seq (.reg [
        ⟨(some 12), .iaddr 1 (.tmp 8) (.tmp 10), none⟩,
        ⟨(some 13), .load 1 false (.tmp 12), none⟩,
        ⟨(some 7), .mv (.tmp 13), none⟩] [0, 5, 7, 8, 9, 10])
    (.reg [
        ⟨(some 14), .mv (.tmp 5), none⟩,
        ⟨(some 15), .mv (.tmp 0), none⟩,
        ⟨(some 16), .mv (.tmp 7), none⟩,
        ⟨(some 17), .iaddr 1 (.tmp 15) (.tmp 16), none⟩,
        ⟨(some 18), .load 1 false (.tmp 17), none⟩,
        ⟨(some 19), .bslice 2 1 1 [(.int .i64 0)] [(0, (.tmp 18))], none⟩,
        ⟨(some 20), .app 2 1 8 (.tmp 14) (.tmp 19), none⟩,
        ⟨(some 5), .mv (.tmp 20), none⟩] [0, 5, 8, 9, 10])))
   (.reg [
       ⟨(some 21), .bin .add (.tmp 10) (.const (.int .i64 1)), none⟩,
       ⟨(some 10), .mv (.tmp 21), none⟩] [0, 5, 8, 9, 10])))))))
 (.seq (.reg [
     ⟨(some 22), .mv (.tmp 5), none⟩,
     ⟨(some 23), .call 182 [(.tmp 22)], none⟩] [5])
 (.seq (.reg [
     ⟨(some 24), .mv (.tmp 5), none⟩,
     ⟨(some 4), .mv (.tmp 24), none⟩] [4])
 (.ret)))))
theorem s_impl_image : stripF Tryz.prog 156 [[0, 1], [0, 1, 5], [0, 5, 8, 9, 10], [0, 5, 8, 9, 10], [0, 5, 8, 9, 10, 11], [0, 5, 7, 8, 9, 10], [0, 5, 8, 9, 10], [0, 5, 8, 9, 10], [5], [4]] = some (c_impl_image, [.tmp 4], 25) := by kernel_rfl
theorem l00PutZ_fn (xss : List Int) (x : Int) (hl : xss.length ≤ 2000000) : PFn Tryz.prog f_spec_l00Put [ilS xss, I x] (ilS (insU cmpZ x xss)) := by
  intro H; refine ACalls.introB s_spec_l00Put (by simp) ?_; intro hB hA; unfold c_spec_l00Put; simp (config := { maxSteps := 1000000 }) (disch := (first | omega | (simp only [go_sem]; try omega))) only [go_sem, Nat.reduceAdd, Nat.reduceEqDiff, Nat.reduceLeDiff, Nat.reduceMul, Nat.reduceLT, reduceIte, Int.reduceToNat, w64_id, cast_succ]
  repeat (first | (with_reducible first | refine SW.seq ?_ | refine SW.block ?_ | refine SW.rowC ?_ | refine SW.skip ?_ | refine SW.exit ?_ | intro _ | refine And.intro (by omega) ?_) | simp (config := { maxSteps := 1000000 }) (disch := (first | omega | (simp only [go_sem]; try omega))) only [go_sem, Nat.reduceAdd, Nat.reduceEqDiff, Nat.reduceLeDiff, Nat.reduceMul, Nat.reduceLT, reduceIte, Int.reduceToNat, w64_id, cast_succ])
  refine SW.loopE (fun E0 H0 q E' H' => ∃ (pre post L : List Int) (ver : Nat) (done : Bool), xss = pre ++ post ∧ q = post.length ∧ E' = aput (aput (aput E0 7 (I pre.length)) 6 (Bv done)) 5 (.nm H.length ver 0 L.length) ∧ H' = H ++ [⟨ver, 2, 1, L.map I⟩] ∧
    (if done = true then L ++ post else L ++ insU cmpZ x post) = insU cmpZ x xss ∧ L.length ≤ pre.length + (if done = true then 1 else 0)) xss.length ⟨[], xss, [], 0, false, rfl, rfl, rfl, rfl, rfl, by simp⟩ ?_
  rintro q E' H' ⟨pre, post, L, ver, done, hp, rfl, rfl, rfl, hL, hLl⟩
  have hpl : pre.length ≤ 2000000 := by rw [hp] at hl; simp at hl; omega
  have htl : (L.map I).take L.length = L.map I := List.take_of_length_le (by simp)
  have htl1 : ∀ y, (L.map I ++ [I y]).take (L.length + 1) = L.map I ++ [I y] := fun y => List.take_of_length_le (by simp)
  have htl3 : ∀ y, (List.map I (L ++ [y])).take (L.length + 1) = List.map I (L ++ [y]) := fun y => List.take_of_length_le (by simp)
  have insc : ∀ (y : Int) (r : List Int), insU cmpZ x (y :: r) = if x ≤ y then (if x < y then x :: y :: r else y :: r) else y :: insU cmpZ x r := fun y r => by
    rw [insU]; unfold cmpZ
    by_cases h1 : x ≤ y
    · rw [if_pos (show y - x ≥ 0 by omega), if_pos h1]
      by_cases h2 : x < y
      · rw [if_pos (show y - x > 0 by omega), if_pos h2]
      · rw [if_neg (show ¬ y - x > 0 by omega), if_neg h2]
    · rw [if_neg (show ¬ y - x ≥ 0 by omega), if_neg h1]
  cases done
  · simp only [Bool.false_eq_true, if_false] at hL hLl
    simp (config := { maxSteps := 1000000 }) (disch := (first | omega | (simp only [go_sem]; try omega))) only [go_sem, Nat.reduceAdd, Nat.reduceEqDiff, Nat.reduceLeDiff, Nat.reduceMul, Nat.reduceLT, reduceIte, Int.reduceToNat, w64_id, cast_succ]
    repeat (first | (with_reducible first | refine SW.seq ?_ | refine SW.block ?_ | refine SW.rowC ?_ | refine SW.skip ?_ | refine SW.exit ?_ | intro _ | refine And.intro (by omega) ?_) | simp (config := { maxSteps := 1000000 }) (disch := (first | omega | (simp only [go_sem]; try omega))) only [go_sem, Nat.reduceAdd, Nat.reduceEqDiff, Nat.reduceLeDiff, Nat.reduceMul, Nat.reduceLT, reduceIte, Int.reduceToNat, w64_id, cast_succ])
    (first | refine SW.condD rfl (fun h => ?_) (fun h => ?_) | refine SW.condN rfl (fun h => ?_) (fun h => ?_) | refine SW.condNB rfl (fun h => ?_) (fun h => ?_) | refine SW.condB rfl (fun h => ?_) (fun h => ?_))
    · obtain ⟨y, post, rfl, hg, -⟩ := consOf (d := 0) hp (by omega)
      rw [insc] at hL
      by_cases hc0 : x ≤ y
      · rw [if_pos hc0] at hL
        have hd0 : decide (x ≤ y) = true := decide_eq_true hc0
        repeat (first | (with_reducible first | refine SW.seq ?_ | refine SW.block ?_ | refine SW.rowC ?_ | refine SW.skip ?_ | refine SW.exit ?_ | intro _ | refine And.intro (by omega) ?_) | simp (config := { maxSteps := 1000000 }) (disch := (first | omega | (simp only [go_sem]; try omega))) only [go_sem, Nat.reduceAdd, Nat.reduceEqDiff, Nat.reduceLeDiff, Nat.reduceMul, Nat.reduceLT, reduceIte, Int.reduceToNat, w64_id, cast_succ, hg, hd0])
        refine SW.condT rfl ?_
        repeat (first | (with_reducible first | refine SW.seq ?_ | refine SW.block ?_ | refine SW.rowC ?_ | refine SW.skip ?_ | refine SW.exit ?_ | intro _ | refine And.intro (by omega) ?_) | simp (config := { maxSteps := 1000000 }) (disch := (first | omega | (simp only [go_sem]; try omega))) only [go_sem, Nat.reduceAdd, Nat.reduceEqDiff, Nat.reduceLeDiff, Nat.reduceMul, Nat.reduceLT, reduceIte, Int.reduceToNat, w64_id, cast_succ])
        by_cases hc1 : x < y
        · rw [if_pos hc1] at hL
          have hd1 : decide (x < y) = true := decide_eq_true hc1
          repeat (first | (with_reducible first | refine SW.seq ?_ | refine SW.block ?_ | refine SW.rowC ?_ | refine SW.skip ?_ | refine SW.exit ?_ | intro _ | refine And.intro (by omega) ?_) | simp (config := { maxSteps := 1000000 }) (disch := (first | omega | (simp only [go_sem]; try omega))) only [go_sem, Nat.reduceAdd, Nat.reduceEqDiff, Nat.reduceLeDiff, Nat.reduceMul, Nat.reduceLT, reduceIte, Int.reduceToNat, w64_id, cast_succ, hg, hd1])
          refine SW.condT rfl ?_
          repeat (first | (with_reducible first | refine SW.seq ?_ | refine SW.block ?_ | refine SW.rowC ?_ | refine SW.skip ?_ | refine SW.exit ?_ | intro _ | refine And.intro (by omega) ?_) | simp (config := { maxSteps := 1000000 }) (disch := (first | omega | (simp only [go_sem]; try omega))) only [go_sem, Nat.reduceAdd, Nat.reduceEqDiff, Nat.reduceLeDiff, Nat.reduceMul, Nat.reduceLT, reduceIte, Int.reduceToNat, w64_id, cast_succ, hg, htl, htl1, htl3])
          have htl2 : (L.map I ++ [I x, I y]).take (L.length + 2) = L.map I ++ [I x, I y] := List.take_of_length_le (by simp)
          refine SLoop.nextT 1 post.length hB (by omega) (by simp) (by simp) ?_ ?_ ⟨pre ++ [y], post, L ++ [x, y], ver + 1 + 1, true, by simp [hp], rfl, ?_, ?_, ?_, ?_⟩
          · (simp only [go_sem, Nat.reduceAdd, Nat.reduceEqDiff, reduceIte, go_sem, and_self, and_true, true_and, implies_true, List.take_succ_cons, List.take_zero, and_true, true_and]; try omega)
          · (simp only [go_sem, Nat.reduceAdd, Nat.reduceEqDiff, reduceIte, go_sem, and_self, and_true, true_and, implies_true, List.take_succ_cons, List.take_zero, and_true, true_and]; try omega)
          · simp [go_sem]
          · simp
          · simpa using hL
          · simp; omega
        · rw [if_neg hc1] at hL
          have hd1 : decide (x < y) = false := decide_eq_false hc1
          repeat (first | (with_reducible first | refine SW.seq ?_ | refine SW.block ?_ | refine SW.rowC ?_ | refine SW.skip ?_ | refine SW.exit ?_ | intro _ | refine And.intro (by omega) ?_) | simp (config := { maxSteps := 1000000 }) (disch := (first | omega | (simp only [go_sem]; try omega))) only [go_sem, Nat.reduceAdd, Nat.reduceEqDiff, Nat.reduceLeDiff, Nat.reduceMul, Nat.reduceLT, reduceIte, Int.reduceToNat, w64_id, cast_succ, hg, hd1])
          refine SW.condF rfl ?_
          repeat (first | (with_reducible first | refine SW.seq ?_ | refine SW.block ?_ | refine SW.rowC ?_ | refine SW.skip ?_ | refine SW.exit ?_ | intro _ | refine And.intro (by omega) ?_) | simp (config := { maxSteps := 1000000 }) (disch := (first | omega | (simp only [go_sem]; try omega))) only [go_sem, Nat.reduceAdd, Nat.reduceEqDiff, Nat.reduceLeDiff, Nat.reduceMul, Nat.reduceLT, reduceIte, Int.reduceToNat, w64_id, cast_succ, hg, htl, htl1, htl3])
          refine SLoop.nextT 1 post.length hB (by omega) (by simp) (by simp) ?_ ?_ ⟨pre ++ [y], post, L ++ [y], ver + 1, true, by simp [hp], rfl, ?_, ?_, ?_, ?_⟩
          · (simp only [go_sem, Nat.reduceAdd, Nat.reduceEqDiff, reduceIte, go_sem, and_self, and_true, true_and, implies_true, List.take_succ_cons, List.take_zero, and_true, true_and]; try omega)
          · (simp only [go_sem, Nat.reduceAdd, Nat.reduceEqDiff, reduceIte, go_sem, and_self, and_true, true_and, implies_true, List.take_succ_cons, List.take_zero, and_true, true_and]; try omega)
          · simp [go_sem]
          · simp
          · simpa using hL
          · simp; omega
      · rw [if_neg hc0] at hL
        have hd0 : decide (x ≤ y) = false := decide_eq_false hc0
        repeat (first | (with_reducible first | refine SW.seq ?_ | refine SW.block ?_ | refine SW.rowC ?_ | refine SW.skip ?_ | refine SW.exit ?_ | intro _ | refine And.intro (by omega) ?_) | simp (config := { maxSteps := 1000000 }) (disch := (first | omega | (simp only [go_sem]; try omega))) only [go_sem, Nat.reduceAdd, Nat.reduceEqDiff, Nat.reduceLeDiff, Nat.reduceMul, Nat.reduceLT, reduceIte, Int.reduceToNat, w64_id, cast_succ, hg, hd0])
        refine SW.condF rfl ?_
        repeat (first | (with_reducible first | refine SW.seq ?_ | refine SW.block ?_ | refine SW.rowC ?_ | refine SW.skip ?_ | refine SW.exit ?_ | intro _ | refine And.intro (by omega) ?_) | simp (config := { maxSteps := 1000000 }) (disch := (first | omega | (simp only [go_sem]; try omega))) only [go_sem, Nat.reduceAdd, Nat.reduceEqDiff, Nat.reduceLeDiff, Nat.reduceMul, Nat.reduceLT, reduceIte, Int.reduceToNat, w64_id, cast_succ, hg, htl, htl1, htl3])
        refine SLoop.nextT 1 post.length hB (by omega) (by simp) (by simp) ?_ ?_ ⟨pre ++ [y], post, L ++ [y], ver + 1, false, by simp [hp], rfl, ?_, ?_, ?_, ?_⟩
        · (simp only [go_sem, Nat.reduceAdd, Nat.reduceEqDiff, reduceIte, go_sem, and_self, and_true, true_and, implies_true, List.take_succ_cons, List.take_zero, and_true, true_and]; try omega)
        · (simp only [go_sem, Nat.reduceAdd, Nat.reduceEqDiff, reduceIte, go_sem, and_self, and_true, true_and, implies_true, List.take_succ_cons, List.take_zero, and_true, true_and]; try omega)
        · simp [go_sem]
        · simp
        · simpa using hL
        · simp; omega
    · obtain ⟨rfl, rfl⟩ := nilOf hp (by omega)
      repeat (first | (with_reducible first | refine SW.seq ?_ | refine SW.block ?_ | refine SW.rowC ?_ | refine SW.skip ?_ | refine SW.exit ?_ | intro _ | refine And.intro (by omega) ?_) | simp (config := { maxSteps := 1000000 }) (disch := (first | omega | (simp only [go_sem]; try omega))) only [go_sem, Nat.reduceAdd, Nat.reduceEqDiff, Nat.reduceLeDiff, Nat.reduceMul, Nat.reduceLT, reduceIte, Int.reduceToNat, w64_id, cast_succ, htl])
      refine SW.condT rfl ?_
      repeat (first | (with_reducible first | refine SW.seq ?_ | refine SW.block ?_ | refine SW.rowC ?_ | refine SW.skip ?_ | refine SW.exit ?_ | intro _ | refine And.intro (by omega) ?_) | simp (config := { maxSteps := 1000000 }) (disch := (first | omega | (simp only [go_sem]; try omega))) only [go_sem, Nat.reduceAdd, Nat.reduceEqDiff, Nat.reduceLeDiff, Nat.reduceMul, Nat.reduceLT, reduceIte, Int.reduceToNat, w64_id, cast_succ, htl])
      refine SW.ret ?_; (try simp only [go_sem]); (first | refine FunPost.one ?_ | refine FunPost.two ?_ | refine FunPost.three ?_); (try simp (config := { maxSteps := 1000000 }) (disch := (first | omega | (simp only [go_sem]; try omega))) only [go_sem, Nat.reduceAdd, Nat.reduceEqDiff, Nat.reduceLeDiff, Nat.reduceMul, Nat.reduceLT, reduceIte, Int.reduceToNat, w64_id, cast_succ])
      refine GR.froz (r' := ilS (insU cmpZ x pre)) ?_ ⟨rfl, rfl⟩
      rw [← hL]
      have e := froz_rowI (H := H ++ [⟨ver + 1, 2, 1, (L ++ [x]).map I⟩, ⟨0, 2, 1, [I x]⟩]) (b := H.length) (r := H.length) (ver := ver + 1) (ty := 2) (xs := L ++ [x]) (Nat.le_refl _) (by simp)
      rw [List.length_append] at e
      exact e
  · simp only [if_true] at hL hLl
    simp (config := { maxSteps := 1000000 }) (disch := (first | omega | (simp only [go_sem]; try omega))) only [go_sem, Nat.reduceAdd, Nat.reduceEqDiff, Nat.reduceLeDiff, Nat.reduceMul, Nat.reduceLT, reduceIte, Int.reduceToNat, w64_id, cast_succ]
    repeat (first | (with_reducible first | refine SW.seq ?_ | refine SW.block ?_ | refine SW.rowC ?_ | refine SW.skip ?_ | refine SW.exit ?_ | intro _ | refine And.intro (by omega) ?_) | simp (config := { maxSteps := 1000000 }) (disch := (first | omega | (simp only [go_sem]; try omega))) only [go_sem, Nat.reduceAdd, Nat.reduceEqDiff, Nat.reduceLeDiff, Nat.reduceMul, Nat.reduceLT, reduceIte, Int.reduceToNat, w64_id, cast_succ])
    (first | refine SW.condD rfl (fun h => ?_) (fun h => ?_) | refine SW.condN rfl (fun h => ?_) (fun h => ?_) | refine SW.condNB rfl (fun h => ?_) (fun h => ?_) | refine SW.condB rfl (fun h => ?_) (fun h => ?_))
    · obtain ⟨y, post, rfl, hg, -⟩ := consOf (d := 0) hp (by omega)
      repeat (first | (with_reducible first | refine SW.seq ?_ | refine SW.block ?_ | refine SW.rowC ?_ | refine SW.skip ?_ | refine SW.exit ?_ | intro _ | refine And.intro (by omega) ?_) | simp (config := { maxSteps := 1000000 }) (disch := (first | omega | (simp only [go_sem]; try omega))) only [go_sem, Nat.reduceAdd, Nat.reduceEqDiff, Nat.reduceLeDiff, Nat.reduceMul, Nat.reduceLT, reduceIte, Int.reduceToNat, w64_id, cast_succ, hg])
      refine SW.condF rfl ?_
      repeat (first | (with_reducible first | refine SW.seq ?_ | refine SW.block ?_ | refine SW.rowC ?_ | refine SW.skip ?_ | refine SW.exit ?_ | intro _ | refine And.intro (by omega) ?_) | simp (config := { maxSteps := 1000000 }) (disch := (first | omega | (simp only [go_sem]; try omega))) only [go_sem, Nat.reduceAdd, Nat.reduceEqDiff, Nat.reduceLeDiff, Nat.reduceMul, Nat.reduceLT, reduceIte, Int.reduceToNat, w64_id, cast_succ, hg, htl, htl1, htl3])
      refine SLoop.nextT 1 post.length hB (by omega) (by simp) (by simp) ?_ ?_ ⟨pre ++ [y], post, L ++ [y], ver + 1, true, by simp [hp], rfl, ?_, ?_, ?_, ?_⟩
      · (simp only [go_sem, Nat.reduceAdd, Nat.reduceEqDiff, reduceIte, go_sem, and_self, and_true, true_and, implies_true, List.take_succ_cons, List.take_zero, and_true, true_and]; try omega)
      · (simp only [go_sem, Nat.reduceAdd, Nat.reduceEqDiff, reduceIte, go_sem, and_self, and_true, true_and, implies_true, List.take_succ_cons, List.take_zero, and_true, true_and]; try omega)
      · simp [go_sem]
      · simp
      · simpa using hL
      · simp; omega
    · obtain ⟨rfl, rfl⟩ := nilOf hp (by omega)
      repeat (first | (with_reducible first | refine SW.seq ?_ | refine SW.block ?_ | refine SW.rowC ?_ | refine SW.skip ?_ | refine SW.exit ?_ | intro _ | refine And.intro (by omega) ?_) | simp (config := { maxSteps := 1000000 }) (disch := (first | omega | (simp only [go_sem]; try omega))) only [go_sem, Nat.reduceAdd, Nat.reduceEqDiff, Nat.reduceLeDiff, Nat.reduceMul, Nat.reduceLT, reduceIte, Int.reduceToNat, w64_id, cast_succ, htl])
      refine SW.condF rfl ?_
      repeat (first | (with_reducible first | refine SW.seq ?_ | refine SW.block ?_ | refine SW.rowC ?_ | refine SW.skip ?_ | refine SW.exit ?_ | intro _ | refine And.intro (by omega) ?_) | simp (config := { maxSteps := 1000000 }) (disch := (first | omega | (simp only [go_sem]; try omega))) only [go_sem, Nat.reduceAdd, Nat.reduceEqDiff, Nat.reduceLeDiff, Nat.reduceMul, Nat.reduceLT, reduceIte, Int.reduceToNat, w64_id, cast_succ, htl])
      refine SW.ret ?_; (try simp only [go_sem]); (first | refine FunPost.one ?_ | refine FunPost.two ?_ | refine FunPost.three ?_); (try simp (config := { maxSteps := 1000000 }) (disch := (first | omega | (simp only [go_sem]; try omega))) only [go_sem, Nat.reduceAdd, Nat.reduceEqDiff, Nat.reduceLeDiff, Nat.reduceMul, Nat.reduceLT, reduceIte, Int.reduceToNat, w64_id, cast_succ])
      refine GR.froz (r' := ilS (insU cmpZ x pre)) ?_ ⟨rfl, rfl⟩
      rw [← hL, List.append_nil]
      exact froz_rowI (ver := ver) (ty := 2) (Nat.le_refl _) (by simp)
theorem pa_get {n : Nat} {p : List Int} (hp : permOk n p) {x : Int} (h0 : 0 ≤ x) (h1 : x < n) : x.toNat < p.length ∧ p.getD x.toNat 0 = pa p x := ⟨by rw [hp.1]; omega, rfl⟩
theorem l04Image_fn (n : Nat) (p b : List Int) (hn : n ≤ 64) (hp : permOk n p) (hb : asc 0 ((n : Int) - 1) b = true) : PFn Tryz.prog f_spec_l04Image [ilS p, ilS b] (ilS (img p b)) := by
  intro H; refine ACalls.introB s_spec_l04Image (by simp) ?_; intro hB hA; unfold c_spec_l04Image; simp (config := { maxSteps := 1000000 }) (disch := (first | omega | (simp only [go_sem]; try omega))) only [go_sem, Nat.reduceAdd, Nat.reduceEqDiff, Nat.reduceLeDiff, Nat.reduceMul, Nat.reduceLT, reduceIte, Int.reduceToNat, w64_id, cast_succ]
  repeat (first | (with_reducible first | refine SW.seq ?_ | refine SW.block ?_ | refine SW.rowC ?_ | refine SW.skip ?_ | refine SW.exit ?_ | intro _ | refine And.intro (by omega) ?_) | simp (config := { maxSteps := 1000000 }) (disch := (first | omega | (simp only [go_sem]; try omega))) only [go_sem, Nat.reduceAdd, Nat.reduceEqDiff, Nat.reduceLeDiff, Nat.reduceMul, Nat.reduceLT, reduceIte, Int.reduceToNat, w64_id, cast_succ])
  refine SW.froz (E' := [(0, ilS p), (1, ilS b), (5, ilS []), (6, I 0)]) hB (by simp) (.cons _ (ren_ilS _) (.cons _ (ren_ilS _) (.cons _ ?_ (.cons _ (ren_I _) .nil)))) ?_
  · have := ren_rowI (H := H ++ [(⟨0, 2, 1, [].map I⟩ : Blk)]) (k := H.length) (js := []) (r := H.length) (ver := 0) (ty := 2) (xs := []) (by simp) (by simp) (by simp)
    exact this
  have hbl : b.length ≤ 64 := by rcases asc_len hb with h | h; (rw [h]; simp); omega
  have hbm := asc_mem hb
  refine SW.loopE (fun E0 H0 q E' H' => ∃ (pre post : List Int), b = pre ++ post ∧ q = post.length ∧ E' = aput (aput E0 6 (I pre.length)) 5 (ilS (img p pre)) ∧ H' = H0) b.length ⟨[], b, rfl, rfl, rfl, rfl⟩ ?_
  rintro q E' H' ⟨pre, post, hpp, rfl, rfl, rfl⟩
  have hsl := sortU_len (cf := cmpZ) (pre.map (pa p))
  have hsn : ∀ y, img p (pre ++ [y]) = insU cmpZ (pa p y) (img p pre) := fun y => by unfold img; rw [List.map_append]; exact sortU_snoc _ _
  have hpl : pre.length ≤ 64 := by rw [hpp] at hbl; simp at hbl; omega
  rw [List.length_map] at hsl
  simp (config := { maxSteps := 1000000 }) (disch := (first | omega | (simp only [go_sem]; try omega))) only [go_sem, Nat.reduceAdd, Nat.reduceEqDiff, Nat.reduceLeDiff, Nat.reduceMul, Nat.reduceLT, reduceIte, Int.reduceToNat, w64_id, cast_succ]
  repeat (first | (with_reducible first | refine SW.seq ?_ | refine SW.block ?_ | refine SW.rowC ?_ | refine SW.skip ?_ | refine SW.exit ?_ | intro _ | refine And.intro (by omega) ?_) | simp (config := { maxSteps := 1000000 }) (disch := (first | omega | (simp only [go_sem]; try omega))) only [go_sem, Nat.reduceAdd, Nat.reduceEqDiff, Nat.reduceLeDiff, Nat.reduceMul, Nat.reduceLT, reduceIte, Int.reduceToNat, w64_id, cast_succ])
  (first | refine SW.condD rfl (fun h => ?_) (fun h => ?_) | refine SW.condN rfl (fun h => ?_) (fun h => ?_) | refine SW.condNB rfl (fun h => ?_) (fun h => ?_) | refine SW.condB rfl (fun h => ?_) (fun h => ?_))
  · obtain ⟨y, post, rfl, hg, -⟩ := consOf (d := 0) hpp (by omega)
    have hy := hbm y (by rw [hpp]; simp)
    obtain ⟨hg1, hg2⟩ := pa_get hp hy.1 (by omega)
    repeat (first | (with_reducible first | refine SW.seq ?_ | refine SW.block ?_ | refine SW.rowC ?_ | refine SW.skip ?_ | refine SW.exit ?_ | refine PFn.use (l00PutZ_fn (img p pre) _ (by unfold img; omega)) ?_ | refine PFn.useq (l00PutZ_fn (img p pre) _ (by unfold img; omega)) ?_ | intro _ | refine And.intro (by omega) ?_) | simp (config := { maxSteps := 1000000 }) (disch := (first | omega | (simp only [go_sem]; try omega))) only [go_sem, Nat.reduceAdd, Nat.reduceEqDiff, Nat.reduceLeDiff, Nat.reduceMul, Nat.reduceLT, reduceIte, Int.reduceToNat, w64_id, cast_succ, hg, hg2])
    refine SLoop.next post.length (by simp) ⟨pre ++ [y], post, by simp [hpp], rfl, ?_, rfl⟩
    rw [hsn]; simp [go_sem]
  · obtain ⟨rfl, rfl⟩ := nilOf hpp (by omega)
    repeat (first | (with_reducible first | refine SW.seq ?_ | refine SW.block ?_ | refine SW.rowC ?_ | refine SW.skip ?_ | refine SW.exit ?_ | intro _ | refine And.intro (by omega) ?_) | simp (config := { maxSteps := 1000000 }) (disch := (first | omega | (simp only [go_sem]; try omega))) only [go_sem, Nat.reduceAdd, Nat.reduceEqDiff, Nat.reduceLeDiff, Nat.reduceMul, Nat.reduceLT, reduceIte, Int.reduceToNat, w64_id, cast_succ])
    refine SW.ret ?_; (try simp only [go_sem]); (first | refine FunPost.one ?_ | refine FunPost.two ?_ | refine FunPost.three ?_); (try simp (config := { maxSteps := 1000000 }) (disch := (first | omega | (simp only [go_sem]; try omega))) only [go_sem, Nat.reduceAdd, Nat.reduceEqDiff, Nat.reduceLeDiff, Nat.reduceMul, Nat.reduceLT, reduceIte, Int.reduceToNat, w64_id, cast_succ]); (first | (with_reducible refine GR.drop ?_ ?_; (simp only [go_sem, and_self, and_true, true_and, implies_true, List.take_succ_cons, List.take_zero])) | refine GR.of ?_); refine ⟨?_, rfl⟩; (try with_reducible rfl)
theorem image_fn (n : Nat) (p b : List Int) (hn : n ≤ 64) (hp : permOk n p) (hb : asc 0 ((n : Int) - 1) b = true) : PFn Tryz.prog f_impl_image [ilS p, ilS b] (ilS (img p b)) := by
  intro H; refine ACalls.introB s_impl_image (by simp) ?_; intro hB hA; unfold c_impl_image; simp (config := { maxSteps := 1000000 }) (disch := (first | omega | (simp only [go_sem]; try omega))) only [go_sem, Nat.reduceAdd, Nat.reduceEqDiff, Nat.reduceLeDiff, Nat.reduceMul, Nat.reduceLT, reduceIte, Int.reduceToNat, w64_id, cast_succ]
  repeat (first | (with_reducible first | refine SW.seq ?_ | refine SW.block ?_ | refine SW.rowC ?_ | refine SW.skip ?_ | refine SW.exit ?_ | intro _ | refine And.intro (by omega) ?_) | simp (config := { maxSteps := 1000000 }) (disch := (first | omega | (simp only [go_sem]; try omega))) only [go_sem, Nat.reduceAdd, Nat.reduceEqDiff, Nat.reduceLeDiff, Nat.reduceMul, Nat.reduceLT, reduceIte, Int.reduceToNat, w64_id, cast_succ])
  have hbl : b.length ≤ 64 := by rcases asc_len hb with h | h; (rw [h]; simp); omega
  have hbm := asc_mem hb
  refine SW.ghost (Gh.name 5 2 1 rfl) ?_
  simp (config := { maxSteps := 1000000 }) (disch := (first | omega | (simp only [go_sem]; try omega))) only [go_sem, Nat.reduceAdd, Nat.reduceEqDiff, Nat.reduceLeDiff, Nat.reduceMul, Nat.reduceLT, reduceIte, Int.reduceToNat, w64_id, cast_succ]
  refine SW.loopE (fun E0 H0 q E' H' => ∃ (pre post : List Int) (ver : Nat), b = pre ++ post ∧ q = post.length ∧ E' = aput (aput E0 10 (I pre.length)) 5 (.nm H.length ver 0 (pre.map (pa p)).length) ∧ H' = H ++ [⟨ver, 2, 1, (pre.map (pa p)).map I⟩]) b.length ⟨[], b, 0, rfl, rfl, rfl, rfl⟩ ?_
  rintro q E' H' ⟨pre, post, ver, hpp, rfl, rfl, rfl⟩
  have hpl : pre.length ≤ 64 := by rw [hpp] at hbl; simp at hbl; omega
  have hml : (pre.map (pa p)).length = pre.length := by simp
  have hms : ∀ y, (pre ++ [y]).map (pa p) = pre.map (pa p) ++ [pa p y] := fun y => by simp
  generalize hM : pre.map (pa p) = M at *
  have htl : (M.map I).take M.length = M.map I := List.take_of_length_le (by simp)
  simp (config := { maxSteps := 1000000 }) (disch := (first | omega | (simp only [go_sem]; try omega))) only [go_sem, Nat.reduceAdd, Nat.reduceEqDiff, Nat.reduceLeDiff, Nat.reduceMul, Nat.reduceLT, reduceIte, Int.reduceToNat, w64_id, cast_succ]
  repeat (first | (with_reducible first | refine SW.seq ?_ | refine SW.block ?_ | refine SW.rowC ?_ | refine SW.skip ?_ | refine SW.exit ?_ | intro _ | refine And.intro (by omega) ?_) | simp (config := { maxSteps := 1000000 }) (disch := (first | omega | (simp only [go_sem]; try omega))) only [go_sem, Nat.reduceAdd, Nat.reduceEqDiff, Nat.reduceLeDiff, Nat.reduceMul, Nat.reduceLT, reduceIte, Int.reduceToNat, w64_id, cast_succ])
  (first | refine SW.condD rfl (fun h => ?_) (fun h => ?_) | refine SW.condN rfl (fun h => ?_) (fun h => ?_) | refine SW.condNB rfl (fun h => ?_) (fun h => ?_) | refine SW.condB rfl (fun h => ?_) (fun h => ?_))
  · obtain ⟨y, post, rfl, hg, -⟩ := consOf (d := 0) hpp (by omega)
    have hy := hbm y (by rw [hpp]; simp)
    obtain ⟨hg1, hg2⟩ := pa_get hp hy.1 (by omega)
    repeat (first | (with_reducible first | refine SW.seq ?_ | refine SW.block ?_ | refine SW.rowC ?_ | refine SW.skip ?_ | refine SW.exit ?_ | intro _ | refine And.intro (by omega) ?_) | simp (config := { maxSteps := 1000000 }) (disch := (first | omega | (simp only [go_sem]; try omega))) only [go_sem, Nat.reduceAdd, Nat.reduceEqDiff, Nat.reduceLeDiff, Nat.reduceMul, Nat.reduceLT, reduceIte, Int.reduceToNat, w64_id, cast_succ, hg, hg2, htl])
    refine SLoop.nextT 1 post.length hB (by omega) (by simp) (by simp) ?_ ?_ ⟨pre ++ [y], post, ver + 1, by simp [hpp], rfl, ?_, ?_⟩
    · (simp only [go_sem, Nat.reduceAdd, Nat.reduceEqDiff, reduceIte, go_sem, and_self, and_true, true_and, implies_true, List.take_succ_cons, List.take_zero, and_true, true_and]; try omega)
    · (simp only [go_sem, Nat.reduceAdd, Nat.reduceEqDiff, reduceIte, go_sem, and_self, and_true, true_and, implies_true, List.take_succ_cons, List.take_zero, and_true, true_and]; try omega)
    · simp [go_sem, hml]
    · rw [hms]; simp
  · obtain ⟨rfl, rfl⟩ := nilOf hpp (by omega)
    repeat (first | (with_reducible first | refine SW.seq ?_ | refine SW.block ?_ | refine SW.rowC ?_ | refine SW.skip ?_ | refine SW.exit ?_ | intro _ | refine And.intro (by omega) ?_) | simp (config := { maxSteps := 1000000 }) (disch := (first | omega | (simp only [go_sem]; try omega))) only [go_sem, Nat.reduceAdd, Nat.reduceEqDiff, Nat.reduceLeDiff, Nat.reduceMul, Nat.reduceLT, reduceIte, Int.reduceToNat, w64_id, cast_succ])
    refine (sortI_ok sortL_p sortL_n _ H.length ver 2 M (by simp) (by omega)).mono ?_
    rintro r H' ⟨rfl, rfl⟩
    rw [← hM, img_is hp hb, hM]
    have hil : (img p pre).length = M.length := by rw [← img_is hp hb, hM, isort_length]
    repeat (first | (with_reducible first | refine SW.seq ?_ | refine SW.block ?_ | refine SW.rowC ?_ | refine SW.skip ?_ | refine SW.exit ?_ | intro _ | refine And.intro (by omega) ?_) | simp (config := { maxSteps := 1000000 }) (disch := (first | omega | (simp only [go_sem]; try omega))) only [go_sem, Nat.reduceAdd, Nat.reduceEqDiff, Nat.reduceLeDiff, Nat.reduceMul, Nat.reduceLT, reduceIte, Int.reduceToNat, w64_id, cast_succ])
    refine SW.ret ?_; (try simp only [go_sem]); (first | refine FunPost.one ?_ | refine FunPost.two ?_ | refine FunPost.three ?_); (try simp (config := { maxSteps := 1000000 }) (disch := (first | omega | (simp only [go_sem]; try omega))) only [go_sem, Nat.reduceAdd, Nat.reduceEqDiff, Nat.reduceLeDiff, Nat.reduceMul, Nat.reduceLT, reduceIte, Int.reduceToNat, w64_id, cast_succ])
    rw [← hil]
    exact GR.froz (froz_rowI (r := H.length) (ver := ver) (ty := 2) (Nat.le_refl _) (by simp)) ⟨rfl, rfl⟩
theorem sortFz_ok (H : List Blk) (i ver ty : Nat) (xss : List (List Int)) (hi : H[i]? = some ⟨ver, ty, 1, xss.map ilS⟩) (hl : xss.length < 4611686018427387904) :
    ACalls Tryz.prog n_SortLL [.nm i ver 0 xss.length, .fn f_slices_Compare_Lint64_int64 []] H (fun r H' => r = .tup [] ∧ ∃ yss : List (List Int), yss.Perm xss ∧ yss.Pairwise (fun a b => ¬ cmpL b a < 0) ∧ H' = H.set i ⟨ver, ty, 1, yss.map ilS⟩) := by
  have h := sortF_ok sortLL_p sortLL_n slicesCompare_call ilS cmpL cmpL_tot.swo slicesCompare_fn H i ver ty (xss.map fun x => (ilS x, x)) (by rw [hi, List.map_map]; rfl) (fun p hp => by obtain ⟨x, _, rfl⟩ := List.mem_map.1 hp; rfl) (fun cells' p hp => by obtain ⟨x, _, rfl⟩ := List.mem_map.1 hp; exact froz_ilS x) (by rw [List.length_map]; exact hl)
  rw [List.length_map] at h
  refine h.mono ?_
  rintro r H' ⟨rfl, qs, hq, hs, rfl⟩
  have hfst : ∀ q ∈ qs, q.1 = ilS q.2 := fun q hq' => by obtain ⟨x, _, rfl⟩ := List.mem_map.1 (hq.mem_iff.1 hq'); rfl
  refine ⟨rfl, qs.map Prod.snd, ?_, ?_, ?_⟩
  · have := hq.map Prod.snd
    rwa [List.map_map, show (Prod.snd ∘ fun x : List Int => (ilS x, x)) = id from rfl, List.map_id] at this
  · rw [List.pairwise_map]; exact hs
  · rw [List.map_map]
    congr 2
    exact List.map_congr_left fun q hq' => hfst q hq'
theorem systemImage_fn (n : Nat) (p : List Int) (bs : List (List Int)) (hn : n ≤ 64) (hp : permOk n p) (ha : Asc cmpL bs) (hb : ∀ b ∈ bs, asc 0 ((n : Int) - 1) b = true) (hl : bs.length ≤ 2000000) : PFn Tryz.prog f_impl_systemImage [ilS p, ilSS bs] (ilSS (imgS p bs)) := by
  intro H; refine ACalls.introB s_impl_systemImage (by simp) ?_; intro hB hA; unfold c_impl_systemImage; simp (config := { maxSteps := 1000000 }) (disch := (first | omega | (simp only [go_sem]; try omega))) only [go_sem, Nat.reduceAdd, Nat.reduceEqDiff, Nat.reduceLeDiff, Nat.reduceMul, Nat.reduceLT, reduceIte, Int.reduceToNat, w64_id, cast_succ]
  repeat (first | (with_reducible first | refine SW.seq ?_ | refine SW.block ?_ | refine SW.rowC ?_ | refine SW.skip ?_ | refine SW.exit ?_ | intro _ | refine And.intro (by omega) ?_) | simp (config := { maxSteps := 1000000 }) (disch := (first | omega | (simp only [go_sem]; try omega))) only [go_sem, Nat.reduceAdd, Nat.reduceEqDiff, Nat.reduceLeDiff, Nat.reduceMul, Nat.reduceLT, reduceIte, Int.reduceToNat, w64_id, cast_succ])
  refine SW.ghost (Gh.name 5 22 1 rfl) ?_
  simp (config := { maxSteps := 1000000 }) (disch := (first | omega | (simp only [go_sem]; try omega))) only [go_sem, Nat.reduceAdd, Nat.reduceEqDiff, Nat.reduceLeDiff, Nat.reduceMul, Nat.reduceLT, reduceIte, Int.reduceToNat, w64_id, cast_succ]
  refine SW.loopE (fun E0 H0 q E' H' => ∃ (pre post : List (List Int)) (ver : Nat), bs = pre ++ post ∧ q = post.length ∧ E' = aput (aput E0 10 (I pre.length)) 5 (.nm H.length ver 0 (pre.map (img p)).length) ∧ H' = H ++ [⟨ver, tyLL, 1, (pre.map (img p)).map ilS⟩]) bs.length ⟨[], bs, 0, rfl, rfl, rfl, rfl⟩ ?_
  rintro q E' H' ⟨pre, post, ver, hpp, rfl, rfl, rfl⟩
  have hpl : pre.length ≤ 2000000 := by rw [hpp] at hl; simp at hl; omega
  have hml : (pre.map (img p)).length = pre.length := by simp
  have hms : ∀ y, (pre ++ [y]).map (img p) = pre.map (img p) ++ [img p y] := fun y => by simp
  generalize hM : pre.map (img p) = M at *
  have htl : (M.map ilS).take M.length = M.map ilS := List.take_of_length_le (by simp)
  simp (config := { maxSteps := 1000000 }) (disch := (first | omega | (simp only [go_sem]; try omega))) only [go_sem, Nat.reduceAdd, Nat.reduceEqDiff, Nat.reduceLeDiff, Nat.reduceMul, Nat.reduceLT, reduceIte, Int.reduceToNat, w64_id, cast_succ]
  repeat (first | (with_reducible first | refine SW.seq ?_ | refine SW.block ?_ | refine SW.rowC ?_ | refine SW.skip ?_ | refine SW.exit ?_ | intro _ | refine And.intro (by omega) ?_) | simp (config := { maxSteps := 1000000 }) (disch := (first | omega | (simp only [go_sem]; try omega))) only [go_sem, Nat.reduceAdd, Nat.reduceEqDiff, Nat.reduceLeDiff, Nat.reduceMul, Nat.reduceLT, reduceIte, Int.reduceToNat, w64_id, cast_succ])
  (first | refine SW.condD rfl (fun h => ?_) (fun h => ?_) | refine SW.condN rfl (fun h => ?_) (fun h => ?_) | refine SW.condNB rfl (fun h => ?_) (fun h => ?_) | refine SW.condB rfl (fun h => ?_) (fun h => ?_))
  · obtain ⟨y, post, rfl, hg, -⟩ := consOf (d := []) hpp (by omega)
    repeat (first | (with_reducible first | refine SW.seq ?_ | refine SW.block ?_ | refine SW.rowC ?_ | refine SW.skip ?_ | refine SW.exit ?_ | refine PFn.use (image_fn n p y hn hp (hb y (by rw [hpp]; simp))) ?_ | refine PFn.useq (image_fn n p y hn hp (hb y (by rw [hpp]; simp))) ?_ | intro _ | refine And.intro (by omega) ?_) | simp (config := { maxSteps := 1000000 }) (disch := (first | omega | (simp only [go_sem]; try omega))) only [go_sem, Nat.reduceAdd, Nat.reduceEqDiff, Nat.reduceLeDiff, Nat.reduceMul, Nat.reduceLT, reduceIte, Int.reduceToNat, w64_id, cast_succ, hg, htl])
    refine SLoop.nextT 1 post.length hB (by omega) (by simp) (by simp) ?_ ?_ ⟨pre ++ [y], post, ver + 1, by simp [hpp], rfl, ?_, ?_⟩
    · (simp only [go_sem, Nat.reduceAdd, Nat.reduceEqDiff, reduceIte, go_sem, and_self, and_true, true_and, implies_true, List.take_succ_cons, List.take_zero, and_true, true_and]; try omega)
    · (simp only [go_sem, Nat.reduceAdd, Nat.reduceEqDiff, reduceIte, go_sem, and_self, and_true, true_and, implies_true, List.take_succ_cons, List.take_zero, and_true, true_and]; try omega)
    · simp [go_sem, hml]
    · rw [hms]; simp
  · obtain ⟨rfl, rfl⟩ := nilOf hpp (by omega)
    repeat (first | (with_reducible first | refine SW.seq ?_ | refine SW.block ?_ | refine SW.rowC ?_ | refine SW.skip ?_ | refine SW.exit ?_ | intro _ | refine And.intro (by omega) ?_) | simp (config := { maxSteps := 1000000 }) (disch := (first | omega | (simp only [go_sem]; try omega))) only [go_sem, Nat.reduceAdd, Nat.reduceEqDiff, Nat.reduceLeDiff, Nat.reduceMul, Nat.reduceLT, reduceIte, Int.reduceToNat, w64_id, cast_succ])
    refine (sortFz_ok _ H.length ver tyLL M (by simp) (by omega)).mono ?_
    rintro r H' ⟨rfl, yss, hpm, hsd, rfl⟩
    have hy : yss = imgS p pre := by rw [← hM] at hpm; exact sorted_is cmpL_tot hpm hsd (images_nodup hp ha hb)
    subst hy
    have hil : (imgS p pre).length = M.length := hpm.length_eq
    repeat (first | (with_reducible first | refine SW.seq ?_ | refine SW.block ?_ | refine SW.rowC ?_ | refine SW.skip ?_ | refine SW.exit ?_ | intro _ | refine And.intro (by omega) ?_) | simp (config := { maxSteps := 1000000 }) (disch := (first | omega | (simp only [go_sem]; try omega))) only [go_sem, Nat.reduceAdd, Nat.reduceEqDiff, Nat.reduceLeDiff, Nat.reduceMul, Nat.reduceLT, reduceIte, Int.reduceToNat, w64_id, cast_succ])
    refine SW.ret ?_; (try simp only [go_sem]); (first | refine FunPost.one ?_ | refine FunPost.two ?_ | refine FunPost.three ?_); (try simp (config := { maxSteps := 1000000 }) (disch := (first | omega | (simp only [go_sem]; try omega))) only [go_sem, Nat.reduceAdd, Nat.reduceEqDiff, Nat.reduceLeDiff, Nat.reduceMul, Nat.reduceLT, reduceIte, Int.reduceToNat, w64_id, cast_succ])
    rw [← hil]
    exact GR.froz (froz_rowS (r := H.length) (ver := ver) (ty := tyLL) (Nat.le_refl _) (by simp)) ⟨rfl, rfl⟩
theorem l27Image_fn (n : Nat) (p : List Int) (bs : List (List Int)) (hn : n ≤ 64) (hp : permOk n p) (hb : ∀ b ∈ bs, asc 0 ((n : Int) - 1) b = true) (hl : bs.length ≤ 2000000) : PFn Tryz.prog f_spec_l27Image [ilS p, ilSS bs] (ilSS (imgS p bs)) := by
  intro H; refine ACalls.introB s_spec_l27Image (by simp) ?_; intro hB hA; unfold c_spec_l27Image; simp (config := { maxSteps := 1000000 }) (disch := (first | omega | (simp only [go_sem]; try omega))) only [go_sem, Nat.reduceAdd, Nat.reduceEqDiff, Nat.reduceLeDiff, Nat.reduceMul, Nat.reduceLT, reduceIte, Int.reduceToNat, w64_id, cast_succ]
  repeat (first | (with_reducible first | refine SW.seq ?_ | refine SW.block ?_ | refine SW.rowC ?_ | refine SW.skip ?_ | refine SW.exit ?_ | intro _ | refine And.intro (by omega) ?_) | simp (config := { maxSteps := 1000000 }) (disch := (first | omega | (simp only [go_sem]; try omega))) only [go_sem, Nat.reduceAdd, Nat.reduceEqDiff, Nat.reduceLeDiff, Nat.reduceMul, Nat.reduceLT, reduceIte, Int.reduceToNat, w64_id, cast_succ])
  refine SW.froz (E' := [(0, ilS p), (1, ilSS bs), (5, ilSS []), (6, I 0)]) hB (by simp) (.cons _ (ren_ilS _) (.cons _ (ren_ilSS _) (.cons _ ?_ (.cons _ (ren_I _) .nil)))) ?_
  · have := ren_rowS (H := H ++ [(⟨0, tyLL, 1, [].map ilS⟩ : Blk)]) (k := H.length) (js := []) (r := H.length) (ver := 0) (ty := tyLL) (xs := []) (by simp) (by simp) (by simp)
    exact this
  refine SW.loopE (fun E0 H0 q E' H' => ∃ (pre post : List (List Int)), bs = pre ++ post ∧ q = post.length ∧ E' = aput (aput E0 6 (I pre.length)) 5 (ilSS (imgS p pre)) ∧ H' = H0) bs.length ⟨[], bs, rfl, rfl, rfl, rfl⟩ ?_
  rintro q E' H' ⟨pre, post, hpp, rfl, rfl, rfl⟩
  have hsl := sortU_len (cf := cmpL) (pre.map (img p))
  have hsn : ∀ y, imgS p (pre ++ [y]) = insU cmpL (img p y) (imgS p pre) := fun y => by unfold imgS; rw [List.map_append]; exact sortU_snoc _ _
  have hpl : pre.length ≤ 2000000 := by rw [hpp] at hl; simp at hl; omega
  rw [List.length_map] at hsl
  simp (config := { maxSteps := 1000000 }) (disch := (first | omega | (simp only [go_sem]; try omega))) only [go_sem, Nat.reduceAdd, Nat.reduceEqDiff, Nat.reduceLeDiff, Nat.reduceMul, Nat.reduceLT, reduceIte, Int.reduceToNat, w64_id, cast_succ]
  repeat (first | (with_reducible first | refine SW.seq ?_ | refine SW.block ?_ | refine SW.rowC ?_ | refine SW.skip ?_ | refine SW.exit ?_ | intro _ | refine And.intro (by omega) ?_) | simp (config := { maxSteps := 1000000 }) (disch := (first | omega | (simp only [go_sem]; try omega))) only [go_sem, Nat.reduceAdd, Nat.reduceEqDiff, Nat.reduceLeDiff, Nat.reduceMul, Nat.reduceLT, reduceIte, Int.reduceToNat, w64_id, cast_succ])
  (first | refine SW.condD rfl (fun h => ?_) (fun h => ?_) | refine SW.condN rfl (fun h => ?_) (fun h => ?_) | refine SW.condNB rfl (fun h => ?_) (fun h => ?_) | refine SW.condB rfl (fun h => ?_) (fun h => ?_))
  · obtain ⟨y, post, rfl, hg, -⟩ := consOf (d := []) hpp (by omega)
    repeat (first | (with_reducible first | refine SW.seq ?_ | refine SW.block ?_ | refine SW.rowC ?_ | refine SW.skip ?_ | refine SW.exit ?_ | refine PFn.use (l04Image_fn n p y hn hp (hb y (by rw [hpp]; simp))) ?_ | refine PFn.useq (l04Image_fn n p y hn hp (hb y (by rw [hpp]; simp))) ?_ | refine PFn.use (l21PutList_fn (imgS p pre) _ (by unfold imgS; omega)) ?_ | refine PFn.useq (l21PutList_fn (imgS p pre) _ (by unfold imgS; omega)) ?_ | intro _ | refine And.intro (by omega) ?_) | simp (config := { maxSteps := 1000000 }) (disch := (first | omega | (simp only [go_sem]; try omega))) only [go_sem, Nat.reduceAdd, Nat.reduceEqDiff, Nat.reduceLeDiff, Nat.reduceMul, Nat.reduceLT, reduceIte, Int.reduceToNat, w64_id, cast_succ, hg])
    refine SLoop.next post.length (by simp) ⟨pre ++ [y], post, by simp [hpp], rfl, ?_, rfl⟩
    rw [hsn]; simp [go_sem]
  · obtain ⟨rfl, rfl⟩ := nilOf hpp (by omega)
    repeat (first | (with_reducible first | refine SW.seq ?_ | refine SW.block ?_ | refine SW.rowC ?_ | refine SW.skip ?_ | refine SW.exit ?_ | intro _ | refine And.intro (by omega) ?_) | simp (config := { maxSteps := 1000000 }) (disch := (first | omega | (simp only [go_sem]; try omega))) only [go_sem, Nat.reduceAdd, Nat.reduceEqDiff, Nat.reduceLeDiff, Nat.reduceMul, Nat.reduceLT, reduceIte, Int.reduceToNat, w64_id, cast_succ])
    refine SW.ret ?_; (try simp only [go_sem]); (first | refine FunPost.one ?_ | refine FunPost.two ?_ | refine FunPost.three ?_); (try simp (config := { maxSteps := 1000000 }) (disch := (first | omega | (simp only [go_sem]; try omega))) only [go_sem, Nat.reduceAdd, Nat.reduceEqDiff, Nat.reduceLeDiff, Nat.reduceMul, Nat.reduceLT, reduceIte, Int.reduceToNat, w64_id, cast_succ]); (first | (with_reducible refine GR.drop ?_ ?_; (simp only [go_sem, and_self, and_true, true_and, implies_true, List.take_succ_cons, List.take_zero])) | refine GR.of ?_); refine ⟨?_, rfl⟩; (try with_reducible rfl)
end Go.Proofs.YtmdeibdplpodpaaGreat
