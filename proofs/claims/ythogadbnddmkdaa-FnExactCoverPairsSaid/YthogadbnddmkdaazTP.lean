/- Covering pairs: the reference. -/
import Derived.Test.YthogadbnddmkdaaProg
import Derived.KernelRfl
import Derived.Test.YthogadbnddmkdaazTO
import Derived.Test.YthogadbnddmkdaazGF
import Derived.Test.YthogadbnddmkdaazT0
set_option linter.unusedSimpArgs false
set_option linter.unusedVariables false
set_option maxHeartbeats 4000000
set_option maxRecDepth 100000
namespace Go.Proofs.Ythogadbnddmkdaa
open Go.Av
abbrev f_spec_CoverPairs : Nat := 11
def c_spec_CoverPairs : SC :=
 .seq (.reg [
     ⟨(some 4), .alloc 27 [(.int .i64 0), (.int .i64 0), (.slice none 0 0)], none⟩,
     ⟨(some 5), .mv (.const (.int .i64 0)), none⟩] [0, 1, 4])
 (.seq (.seq (.reg [
     ⟨(some 14), .mv (.tmp 0), none⟩,
     ⟨(some 15), .mv (.tmp 1), none⟩,
     ⟨(some 16), .call 42 [(.tmp 14), (.tmp 15)], none⟩,
     ⟨(some 17), .un .not (.tmp 16), none⟩,
     ⟨(some 18), .mv (.tmp 17), none⟩,
     ⟨(some 19), .mv (.tmp 1), (some (18, false))⟩,
     ⟨(some 20), .bin .lss (.tmp 19) (.const (.int .i64 2)), (some (18, false))⟩,
     ⟨(some 21), .pick (.tmp 18) (.const (.bool true)) (.tmp 20), none⟩] [0, 1, 4, 21])
 (.cond (.tmp 21)
  (.seq (.reg [
      ⟨(some 22), .build [(.int .i64 0), (.int .i64 0), (.slice none 0 0)] [], none⟩,
      ⟨none, .store 3 (.tmp 4) (.tmp 22), none⟩,
      ⟨(some 5), .mv (.const (.int .i64 2)), none⟩] [4, 5])
  (.ret))
  (.skip)))
 (.seq (.reg [
     ⟨(some 23), .mv (.tmp 0), none⟩,
     ⟨(some 24), .mv (.tmp 1), none⟩,
     ⟨(some 25), .bslice 39 1 0 [] [], none⟩,
     ⟨(some 26), .build [(.int .i64 0), (.int .i64 0), (.slice none 0 0)] [(0, 1, (.tmp 23)), (1, 1, (.tmp 24)), (2, 1, (.tmp 25))], none⟩,
     ⟨(some 6), .alloc 27 [(.int .i64 0), (.int .i64 0), (.slice none 0 0)], none⟩,
     ⟨none, .store 3 (.tmp 6) (.tmp 26), none⟩] [0, 1, 4, 6])
 (.seq (.reg [
     ⟨(some 27), .mv (.tmp 1), none⟩,
     ⟨(some 28), .mv (.tmp 1), none⟩,
     ⟨(some 29), .bin .mul (.tmp 27) (.tmp 28), none⟩,
     ⟨(some 30), .mv (.tmp 0), none⟩,
     ⟨(some 31), .bin .mul (.tmp 29) (.tmp 30), none⟩,
     ⟨(some 32), .mv (.tmp 0), none⟩,
     ⟨(some 33), .bin .mul (.tmp 31) (.tmp 32), none⟩,
     ⟨(some 34), .mslice 4 1 (.bool false) (.tmp 33) (.tmp 33), none⟩,
     ⟨(some 7), .mv (.tmp 34), none⟩] [0, 1, 4, 6, 7])
 (.seq (.seq (.reg [
     ⟨(some 8), .mv (.const (.int .i64 0)), none⟩] [0, 1, 4, 6, 7, 8])
 (.block 0 (.loop [0, 1, 4, 6, 7, 8]
   (.seq (.seq (.reg [
       ⟨(some 35), .mv (.tmp 8), none⟩,
       ⟨(some 36), .mv (.tmp 1), none⟩,
       ⟨(some 37), .bin .lss (.tmp 35) (.tmp 36), none⟩] [0, 1, 4, 6, 7, 8, 37])
   (.cond (.tmp 37)
    (.skip)
    (.exit 0)))
   (.seq (.block 1 (.seq (.reg [
        ⟨(some 40), .mv (.tmp 8), none⟩,
        ⟨(some 41), .bin .add (.tmp 40) (.const (.int .i64 1)), none⟩,
        ⟨(some 9), .mv (.tmp 41), none⟩] [0, 1, 4, 6, 7, 8, 9])
    (.block 2 (.loop [0, 1, 4, 6, 7, 8, 9]
      (.seq (.seq (.reg [
          ⟨(some 42), .mv (.tmp 9), none⟩,
          ⟨(some 43), .mv (.tmp 1), none⟩,
          ⟨(some 44), .bin .lss (.tmp 42) (.tmp 43), none⟩] [0, 1, 4, 6, 7, 8, 9, 44])
      (.cond (.tmp 44)
       (.skip)
       (.exit 2)))
      (.seq (.block 3 (.seq (.reg [
           ⟨(some 10), .mv (.const (.int .i64 0)), none⟩] [0, 1, 4, 6, 7, 8, 9, 10])
       (.block 4 (.loop [0, 1, 4, 6, 7, 8, 9, 10]
         (.seq (.seq (.reg [
             ⟨(some 47), .mv (.tmp 10), none⟩,
             ⟨(some 48), .mv (.tmp 0), none⟩,
             ⟨(some 49), .mv (.tmp 0), none⟩,
             ⟨(some 50), .bin .mul (.tmp 48) (.tmp 49), none⟩,
             ⟨(some 51), .bin .lss (.tmp 47) (.tmp 50), none⟩] [0, 1, 4, 6, 7, 8, 9, 10, 51])
         (.cond (.tmp 51)
          (.skip)
          (.exit 4)))
         (.seq (.block 5 (.seq (.seq (.reg [
              ⟨(some 54), .mv (.tmp 7), none⟩,
              ⟨(some 55), .mv (.tmp 0), none⟩,
              ⟨(some 56), .mv (.tmp 1), none⟩,
              ⟨(some 57), .mv (.tmp 8), none⟩,
              ⟨(some 58), .mv (.tmp 9), none⟩,
              ⟨(some 59), .mv (.tmp 10), none⟩,
              ⟨(some 60), .mv (.tmp 0), none⟩,
              ⟨(some 61), .bin .quo (.tmp 59) (.tmp 60), none⟩,
              ⟨(some 62), .mv (.tmp 10), none⟩,
              ⟨(some 63), .mv (.tmp 0), none⟩,
              ⟨(some 64), .bin .rem (.tmp 62) (.tmp 63), none⟩,
              ⟨(some 65), .qcall 43 [(.tmp 55), (.tmp 56), (.tmp 57), (.tmp 58), (.tmp 61), (.tmp 64)], none⟩,
              ⟨(some 66), .iaddr 1 (.tmp 54) (.tmp 65), none⟩,
              ⟨(some 67), .load 1 false (.tmp 66), none⟩] [0, 1, 4, 6, 7, 8, 9, 10, 67])
          (.cond (.tmp 67)
           (.exit 5)
           (.skip)))
          (.seq (.seq (.reg [
              ⟨(some 68), .faddr 2 (.tmp 6), none⟩,
              ⟨(some 69), .load 1 false (.tmp 68), none⟩,
              ⟨(some 70), .len (.tmp 69), none⟩,
              ⟨(some 71), .bin .eql (.tmp 70) (.const (.int .i64 256)), none⟩] [0, 1, 4, 6, 7, 8, 9, 10, 71])
          (.cond (.tmp 71)
           (.seq (.reg [
               ⟨(some 72), .build [(.int .i64 0), (.int .i64 0), (.slice none 0 0)] [], none⟩,
               ⟨none, .store 3 (.tmp 4) (.tmp 72), none⟩,
               ⟨(some 5), .mv (.const (.int .i64 5)), none⟩] [4, 5])
           (.ret))
           (.skip)))
          (.seq (.reg [
              ⟨(some 73), .mv (.tmp 0), none⟩,
              ⟨(some 74), .mv (.tmp 1), none⟩,
              ⟨(some 75), .mv (.tmp 8), none⟩,
              ⟨(some 76), .mv (.tmp 9), none⟩,
              ⟨(some 77), .mv (.tmp 10), none⟩,
              ⟨(some 78), .mv (.tmp 0), none⟩,
              ⟨(some 79), .bin .quo (.tmp 77) (.tmp 78), none⟩,
              ⟨(some 80), .mv (.tmp 10), none⟩,
              ⟨(some 81), .mv (.tmp 0), none⟩,
              ⟨(some 82), .bin .rem (.tmp 80) (.tmp 81), none⟩,
              ⟨(some 83), .mv (.tmp 7), none⟩,
              ⟨(some 84), .qcall 44 [(.tmp 73), (.tmp 74), (.tmp 75), (.tmp 76), (.tmp 79), (.tmp 82), (.tmp 83)], none⟩,
              ⟨(some 11), .mv (.tmp 84), none⟩] [0, 1, 4, 6, 7, 8, 9, 10, 11])
          (.seq (.seq (.reg [
              ⟨(some 12), .mv (.const (.int .i64 0)), none⟩] [0, 1, 4, 6, 7, 8, 9, 10, 11, 12])
          (.block 6 (.loop [0, 1, 4, 6, 7, 8, 9, 10, 11, 12]
            (.seq (.seq (.reg [
                ⟨(some 85), .mv (.tmp 12), none⟩,
                ⟨(some 86), .mv (.tmp 1), none⟩,
                ⟨(some 87), .bin .lss (.tmp 85) (.tmp 86), none⟩] [0, 1, 4, 6, 7, 8, 9, 10, 11, 12, 87])
            (.cond (.tmp 87)
             (.skip)
             (.exit 6)))
            (.seq (.block 7 (.seq (.reg [
                 ⟨(some 90), .mv (.tmp 12), none⟩,
                 ⟨(some 91), .bin .add (.tmp 90) (.const (.int .i64 1)), none⟩,
                 ⟨(some 13), .mv (.tmp 91), none⟩] [0, 1, 4, 6, 7, 8, 9, 10, 11, 12, 13])
             (.block 8 (.loop [0, 1, 4, 6, 7, 8, 9, 10, 11, 12, 13]
               (.seq (.seq (.reg [
                   ⟨(some 92), .mv (.tmp 13), none⟩,
                   ⟨(some 93), .mv (.tmp 1), none⟩,
                   ⟨(some 94), .bin .lss (.tmp 92) (.tmp 93), none⟩] [0, 1, 4, 6, 7, 8, 9, 10, 11, 12, 13, 94])
               (.cond (.tmp 94)
                (.skip)
                (.exit 8)))
               (.seq (.block 9 (.reg [
                    ⟨(some 97), .mv (.tmp 7), none⟩,
                    ⟨(some 98), .mv (.tmp 0), none⟩,
                    ⟨(some 99), .mv (.tmp 1), none⟩,
                    ⟨(some 100), .mv (.tmp 12), none⟩,
                    ⟨(some 101), .mv (.tmp 13), none⟩,
                    ⟨(some 102), .mv (.tmp 11), none⟩,
                    ⟨(some 103), .mv (.tmp 12), none⟩,
                    ⟨(some 104), .iaddr 1 (.tmp 102) (.tmp 103), none⟩,
                    ⟨(some 105), .load 1 false (.tmp 104), none⟩,
                    ⟨(some 106), .mv (.tmp 11), none⟩,
                    ⟨(some 107), .mv (.tmp 13), none⟩,
                    ⟨(some 108), .iaddr 1 (.tmp 106) (.tmp 107), none⟩,
                    ⟨(some 109), .load 1 false (.tmp 108), none⟩,
                    ⟨(some 110), .qcall 43 [(.tmp 98), (.tmp 99), (.tmp 100), (.tmp 101), (.tmp 105), (.tmp 109)], none⟩,
                    ⟨(some 111), .iaddr 1 (.tmp 97) (.tmp 110), none⟩,
                    ⟨none, .store 1 (.tmp 111) (.const (.bool true)), none⟩] [0, 1, 4, 6, 7, 8, 9, 10, 11, 12, 13]))
               (.reg [
                   ⟨(some 95), .mv (.tmp 13), none⟩,
                   ⟨(some 96), .bin .add (.tmp 95) (.const (.int .i64 1)), none⟩,
                   ⟨(some 13), .mv (.tmp 96), none⟩] [0, 1, 4, 6, 7, 8, 9, 10, 11, 12, 13])))))))
            (.reg [
                ⟨(some 88), .mv (.tmp 12), none⟩,
                ⟨(some 89), .bin .add (.tmp 88) (.const (.int .i64 1)), none⟩,
                ⟨(some 12), .mv (.tmp 89), none⟩] [0, 1, 4, 6, 7, 8, 9, 10, 11, 12]))))))
          (.reg [
              ⟨(some 112), .faddr 2 (.tmp 6), none⟩,
              ⟨(some 113), .load 1 false (.tmp 112), none⟩,
              ⟨(some 114), .mv (.tmp 11), none⟩,
              ⟨(some 115), .bslice 39 1 1 [(.slice none 0 0)] [(0, (.tmp 114))], none⟩,
              ⟨(some 116), .app 39 1 24 (.tmp 113) (.tmp 115), none⟩,
              ⟨(some 117), .faddr 2 (.tmp 6), none⟩,
              ⟨none, .store 1 (.tmp 117) (.tmp 116), none⟩] [0, 1, 4, 6, 7, 8, 9, 10]))))))
         (.reg [
             ⟨(some 52), .mv (.tmp 10), none⟩,
             ⟨(some 53), .bin .add (.tmp 52) (.const (.int .i64 1)), none⟩,
             ⟨(some 10), .mv (.tmp 53), none⟩] [0, 1, 4, 6, 7, 8, 9, 10])))))))
      (.reg [
          ⟨(some 45), .mv (.tmp 9), none⟩,
          ⟨(some 46), .bin .add (.tmp 45) (.const (.int .i64 1)), none⟩,
          ⟨(some 9), .mv (.tmp 46), none⟩] [0, 1, 4, 6, 7, 8, 9])))))))
   (.reg [
       ⟨(some 38), .mv (.tmp 8), none⟩,
       ⟨(some 39), .bin .add (.tmp 38) (.const (.int .i64 1)), none⟩,
       ⟨(some 8), .mv (.tmp 39), none⟩] [0, 1, 4, 6, 7, 8]))))))
 (.seq (.reg [
     ⟨(some 118), .load 3 true (.tmp 6), none⟩,
     ⟨none, .store 3 (.tmp 4) (.tmp 118), none⟩,
     ⟨(some 5), .mv (.const (.int .i64 0)), none⟩] [4, 5])
 (.ret))))))
theorem s_spec_CoverPairs : stripF Try.prog 11 [[0, 1, 4], [0, 1, 4, 21], [4, 5], [0, 1, 4, 6], [0, 1, 4, 6, 7], [0, 1, 4, 6, 7, 8], [0, 1, 4, 6, 7, 8], [0, 1, 4, 6, 7, 8, 37], [0, 1, 4, 6, 7, 8, 9], [0, 1, 4, 6, 7, 8, 9], [0, 1, 4, 6, 7, 8, 9, 44], [0, 1, 4, 6, 7, 8, 9, 10], [0, 1, 4, 6, 7, 8, 9, 10], [0, 1, 4, 6, 7, 8, 9, 10, 51], [0, 1, 4, 6, 7, 8, 9, 10, 67], [0, 1, 4, 6, 7, 8, 9, 10, 71], [4, 5], [0, 1, 4, 6, 7, 8, 9, 10, 11], [0, 1, 4, 6, 7, 8, 9, 10, 11, 12], [0, 1, 4, 6, 7, 8, 9, 10, 11, 12], [0, 1, 4, 6, 7, 8, 9, 10, 11, 12, 87], [0, 1, 4, 6, 7, 8, 9, 10, 11, 12, 13], [0, 1, 4, 6, 7, 8, 9, 10, 11, 12, 13], [0, 1, 4, 6, 7, 8, 9, 10, 11, 12, 13, 94], [0, 1, 4, 6, 7, 8, 9, 10, 11, 12, 13], [0, 1, 4, 6, 7, 8, 9, 10, 11, 12, 13], [0, 1, 4, 6, 7, 8, 9, 10, 11, 12], [0, 1, 4, 6, 7, 8, 9, 10], [0, 1, 4, 6, 7, 8, 9, 10], [0, 1, 4, 6, 7, 8, 9], [0, 1, 4, 6, 7, 8], [4, 5]] = some (c_spec_CoverPairs, [.cell 4 3, .tmp 5], 119) := by kernel_rfl
theorem specCover_fn (l c : Int) : PFn Try.prog f_spec_CoverPairs [I l, I c] (.tup [.agg [I (cpV l c).1, I (cpV l c).2.1, ilSS (cpV l c).2.2.1], I (cpV l c).2.2.2]) := by
  have hs := l16Shape_fn l c
  unfold cpV
  intro H
  cases hb : shapeOk l c
  · rw [hb] at hs
    simp only [Bool.false_and, Bool.false_eq_true, if_false]
    refine ACalls.introB s_spec_CoverPairs (by simp) ?_; intro hB hA; unfold c_spec_CoverPairs; simp (config := { maxSteps := 1000000 }) (disch := (first | omega | (simp only [go_sem]; try omega))) only [go_sem, Nat.reduceAdd, Nat.reduceEqDiff, Nat.reduceLeDiff, Nat.reduceMul, Nat.reduceLT, reduceIte, Int.reduceToNat, w64_id, cast_succ]
    repeat (first | (with_reducible first | refine SW.seq ?_ | refine SW.block ?_ | refine SW.rowC ?_ | refine SW.skip ?_ | refine SW.exit ?_ | refine PFn.use (hs) ?_ | refine PFn.useq (hs) ?_ | intro _ | refine And.intro (by omega) ?_) | simp (config := { maxSteps := 1000000 }) (disch := (first | omega | (simp only [go_sem]; try omega))) only [go_sem, Nat.reduceAdd, Nat.reduceEqDiff, Nat.reduceLeDiff, Nat.reduceMul, Nat.reduceLT, reduceIte, Int.reduceToNat, w64_id, cast_succ])
    refine SW.condT rfl ?_
    repeat (first | (with_reducible first | refine SW.seq ?_ | refine SW.block ?_ | refine SW.rowC ?_ | refine SW.skip ?_ | refine SW.exit ?_ | intro _ | refine And.intro (by omega) ?_) | simp (config := { maxSteps := 1000000 }) (disch := (first | omega | (simp only [go_sem]; try omega))) only [go_sem, Nat.reduceAdd, Nat.reduceEqDiff, Nat.reduceLeDiff, Nat.reduceMul, Nat.reduceLT, reduceIte, Int.reduceToNat, w64_id, cast_succ])
    refine SW.ret ?_
    refine FunPost.cell_tmp (cs := [I 0, I 0, nilS]) (by simp (config := { maxSteps := 1000000 }) (disch := (first | omega | (simp only [go_sem]; try omega))) only [go_sem, Nat.reduceAdd, Nat.reduceEqDiff, Nat.reduceLeDiff, Nat.reduceMul, Nat.reduceLT, reduceIte, Int.reduceToNat, w64_id, cast_succ]) ?_
    exact GR.froz (froz_tup2 (froz_agg3 (froz_I' _) (froz_I' _) .nil) (froz_I' _)) ⟨rfl, rfl⟩
  rw [hb] at hs
  by_cases h2 : 2 ≤ c
  rotate_left
  · have d2 : decide (2 ≤ c) = false := decide_eq_false h2
    have d3 : decide (c < 2) = true := decide_eq_true (by omega)
    rw [d2]
    simp only [Bool.and_false, Bool.false_eq_true, if_false]
    refine ACalls.introB s_spec_CoverPairs (by simp) ?_; intro hB hA; unfold c_spec_CoverPairs; simp (config := { maxSteps := 1000000 }) (disch := (first | omega | (simp only [go_sem]; try omega))) only [go_sem, Nat.reduceAdd, Nat.reduceEqDiff, Nat.reduceLeDiff, Nat.reduceMul, Nat.reduceLT, reduceIte, Int.reduceToNat, w64_id, cast_succ]
    repeat (first | (with_reducible first | refine SW.seq ?_ | refine SW.block ?_ | refine SW.rowC ?_ | refine SW.skip ?_ | refine SW.exit ?_ | refine PFn.use (hs) ?_ | refine PFn.useq (hs) ?_ | intro _ | refine And.intro (by omega) ?_) | simp (config := { maxSteps := 1000000 }) (disch := (first | omega | (simp only [go_sem]; try omega))) only [go_sem, Nat.reduceAdd, Nat.reduceEqDiff, Nat.reduceLeDiff, Nat.reduceMul, Nat.reduceLT, reduceIte, Int.reduceToNat, w64_id, cast_succ, d3])
    refine SW.condT rfl ?_
    repeat (first | (with_reducible first | refine SW.seq ?_ | refine SW.block ?_ | refine SW.rowC ?_ | refine SW.skip ?_ | refine SW.exit ?_ | intro _ | refine And.intro (by omega) ?_) | simp (config := { maxSteps := 1000000 }) (disch := (first | omega | (simp only [go_sem]; try omega))) only [go_sem, Nat.reduceAdd, Nat.reduceEqDiff, Nat.reduceLeDiff, Nat.reduceMul, Nat.reduceLT, reduceIte, Int.reduceToNat, w64_id, cast_succ])
    refine SW.ret ?_
    refine FunPost.cell_tmp (cs := [I 0, I 0, nilS]) (by simp (config := { maxSteps := 1000000 }) (disch := (first | omega | (simp only [go_sem]; try omega))) only [go_sem, Nat.reduceAdd, Nat.reduceEqDiff, Nat.reduceLeDiff, Nat.reduceMul, Nat.reduceLT, reduceIte, Int.reduceToNat, w64_id, cast_succ]) ?_
    exact GR.froz (froz_tup2 (froz_agg3 (froz_I' _) (froz_I' _) .nil) (froz_I' _)) ⟨rfl, rfl⟩
  have d2 : decide (2 ≤ c) = true := decide_eq_true h2
  have d3 : decide (c < 2) = false := decide_eq_false (by omega)
  rw [d2]
  simp only [Bool.and_self, if_true]
  obtain ⟨p1, p2, p3, p4⟩ := shapeOk_iff.1 hb
  obtain ⟨l, rfl⟩ := Int.eq_ofNat_of_zero_le (show 0 ≤ l by omega)
  obtain ⟨c, rfl⟩ := Int.eq_ofNat_of_zero_le (show 0 ≤ c by omega)
  simp only [Int.toNat_natCast]
  have hn1 : c * c ≤ 8 * 8 := Nat.mul_le_mul (by omega) (by omega)
  have hn2 : c * c * l ≤ 64 * 16 := Nat.mul_le_mul hn1 (by omega)
  have hn3 : c * c * l * l ≤ 1024 * 16 := Nat.mul_le_mul hn2 (by omega)
  have e1 : ((c : Int) * (c : Int)) = ((c * c : Nat) : Int) := by simp
  have e2 : (((c * c : Nat) : Int) * (l : Int)) = ((c * c * l : Nat) : Int) := by simp
  have e3 : (((c * c * l : Nat) : Int) * (l : Int)) = ((c * c * l * l : Nat) : Int) := by simp
  refine ACalls.introB s_spec_CoverPairs (by simp) ?_; intro hB hA; unfold c_spec_CoverPairs; simp (config := { maxSteps := 1000000 }) (disch := (first | omega | (simp only [go_sem]; try omega))) only [go_sem, Nat.reduceAdd, Nat.reduceEqDiff, Nat.reduceLeDiff, Nat.reduceMul, Nat.reduceLT, reduceIte, Int.reduceToNat, w64_id, cast_succ]
  repeat (first | (with_reducible first | refine SW.seq ?_ | refine SW.block ?_ | refine SW.rowC ?_ | refine SW.skip ?_ | refine SW.exit ?_ | refine PFn.use (hs) ?_ | refine PFn.useq (hs) ?_ | intro _ | refine And.intro (by omega) ?_) | simp (config := { maxSteps := 1000000 }) (disch := (first | omega | (simp only [go_sem]; try omega))) only [go_sem, Nat.reduceAdd, Nat.reduceEqDiff, Nat.reduceLeDiff, Nat.reduceMul, Nat.reduceLT, reduceIte, Int.reduceToNat, w64_id, cast_succ, d3])
  refine SW.condF rfl ?_
  repeat (first | (with_reducible first | refine SW.seq ?_ | refine SW.block ?_ | refine SW.rowC ?_ | refine SW.skip ?_ | refine SW.exit ?_ | intro _ | refine And.intro (by omega) ?_) | simp (config := { maxSteps := 1000000 }) (disch := (first | omega | (simp only [go_sem]; try omega))) only [go_sem, Nat.reduceAdd, Nat.reduceEqDiff, Nat.reduceLeDiff, Nat.reduceMul, Nat.reduceLT, reduceIte, Int.reduceToNat, w64_id, cast_succ, e1, e2, e3])
  rw [marks_nil]
  obtain ⟨HH, hHH⟩ : ∃ HH : List Int → List (List Int) → Nat → List Blk, HH = fun m rows ver => [⟨0, tyArr, 1, [I 0, I 0, nilS]⟩, ⟨ver, tyLL, 1, rows.map ilS⟩, ⟨0, tyArr, 1, [I l, I c, .nm (H.length + 1) ver 0 rows.length]⟩, bB (c * c * l * l) m 0] := ⟨_, rfl⟩
  have hH1 : ∀ m rows ver, HH m rows ver = [⟨0, tyArr, 1, [I 0, I 0, nilS]⟩, ⟨ver, tyLL, 1, rows.map ilS⟩, ⟨0, tyArr, 1, [I l, I c, .nm (H.length + 1) ver 0 rows.length]⟩, bB (c * c * l * l) m 0] := fun m rows ver => by rw [hHH]
  have hg3 : ∀ m rows ver e, (H ++ (HH m rows ver ++ e))[H.length + 3]? = some (bB (c * c * l * l) m 0) := fun m rows ver e => by rw [List.getElem?_append_right (by omega), Nat.add_sub_cancel_left, hH1]; rfl
  have hg2 : ∀ m rows ver e, (H ++ (HH m rows ver ++ e))[H.length + 2]? = some ⟨0, tyArr, 1, [I l, I c, .nm (H.length + 1) ver 0 rows.length]⟩ := fun m rows ver e => by rw [List.getElem?_append_right (by omega), Nat.add_sub_cancel_left, hH1]; rfl
  have hg1 : ∀ m rows ver e, (H ++ (HH m rows ver ++ e))[H.length + 1]? = some ⟨ver, tyLL, 1, rows.map ilS⟩ := fun m rows ver e => by rw [List.getElem?_append_right (by omega), Nat.add_sub_cancel_left, hH1]; rfl
  have hvD : ∀ m rows ver e, aview (H ++ (HH m rows ver ++ e)) (.nm (H.length + 3) 0 0 (c * c * l * l)) = some (c * c * l * l, (marks (c * c * l * l) m).map Bv) := fun m rows ver e => view_nm (hg3 m rows ver e) (by simp [marks_length])
  have hvD0 : ∀ m rows ver, aview (H ++ HH m rows ver) (.nm (H.length + 3) 0 0 (c * c * l * l)) = some (c * c * l * l, (marks (c * c * l * l) m).map Bv) := fun m rows ver => by have := hvD m rows ver []; rwa [List.append_nil] at this
  have htM : ∀ m, ((marks (c * c * l * l) m).map Bv).take (c * c * l * l) = (marks (c * c * l * l) m).map Bv := fun m => List.take_of_length_le (by rw [List.length_map, marks_length]; exact Nat.le_refl _)
  have htR : ∀ rows : List (List Int), (rows.map ilS).take rows.length = rows.map ilS := fun rows => List.take_of_length_le (by simp)
  have hin : ∀ m (z : Int), 0 ≤ z → z < (c * c * l * l : Nat) → ((marks (c * c * l * l) m).map Bv)[z.toNat]? = some (Bv (m.contains z)) := fun m z h0 h1 => by
    have hmg := marks_get (c * c * l * l) m z h0 h1
    rw [List.getElem?_map, List.getElem?_eq_getElem (by rw [marks_length]; omega), Option.map_some, ← hmg, List.getD_eq_getElem?_getD, List.getElem?_eq_getElem (by rw [marks_length]; omega)]; rfl
  rw [show H ++ [(⟨0, tyArr, 1, [I 0, I 0, nilS]⟩ : Blk), ⟨0, tyLL, 1, []⟩, ⟨0, tyArr, 1, [I l, I c, .nm (H.length + 1) 0 0 0]⟩, ⟨0, 4, 1, (marks (c * c * l * l) []).map Bv⟩] = H ++ HH [] [] 0 from by rw [hH1]; rfl]
  refine SW.loopE (fun E0 H0 q E' H' => ∃ (x f : Nat) (m : List Int) (rows : List (List Int)) (ver : Nat), x ≤ c ∧ q = c - x ∧ E' = aput E0 8 (I x) ∧ H' = H ++ HH m rows ver ∧ grd l c 257 [] [] = grd l c f m rows ∧ rows.length + f = 257 ∧ rows.length ≤ 256 ∧ opTo l c (inP l c m) x = []) c ⟨0, 257, [], [], 0, by omega, by omega, rfl, rfl, rfl, rfl, by simp, by simp [opTo]⟩ ?_
  rintro q E' H' ⟨x, f, m, rows, ver, hx, rfl, rfl, rfl, hgr, hrf, hr6, hX⟩
  simp (config := { maxSteps := 1000000 }) (disch := (first | omega | (simp only [go_sem]; try omega))) only [go_sem, Nat.reduceAdd, Nat.reduceEqDiff, Nat.reduceLeDiff, Nat.reduceMul, Nat.reduceLT, reduceIte, Int.reduceToNat, w64_id, cast_succ]
  repeat (first | (with_reducible first | refine SW.seq ?_ | refine SW.block ?_ | refine SW.rowC ?_ | refine SW.skip ?_ | refine SW.exit ?_ | intro _ | refine And.intro (by omega) ?_) | simp (config := { maxSteps := 1000000 }) (disch := (first | omega | (simp only [go_sem]; try omega))) only [go_sem, Nat.reduceAdd, Nat.reduceEqDiff, Nat.reduceLeDiff, Nat.reduceMul, Nat.reduceLT, reduceIte, Int.reduceToNat, w64_id, cast_succ])
  (first | refine SW.condD rfl (fun h => ?_) (fun h => ?_) | refine SW.condN rfl (fun h => ?_) (fun h => ?_) | refine SW.condNB rfl (fun h => ?_) (fun h => ?_) | refine SW.condB rfl (fun h => ?_) (fun h => ?_))
  · have hxc : x < c := by omega
    repeat (first | (with_reducible first | refine SW.seq ?_ | refine SW.block ?_ | refine SW.rowC ?_ | refine SW.skip ?_ | refine SW.exit ?_ | intro _ | refine And.intro (by omega) ?_) | simp (config := { maxSteps := 1000000 }) (disch := (first | omega | (simp only [go_sem]; try omega))) only [go_sem, Nat.reduceAdd, Nat.reduceEqDiff, Nat.reduceLeDiff, Nat.reduceMul, Nat.reduceLT, reduceIte, Int.reduceToNat, w64_id, cast_succ])
    refine SW.loopE (fun E0 H0 q E' H' => ∃ (y f : Nat) (m : List Int) (rows : List (List Int)) (ver : Nat), x + 1 ≤ y ∧ y ≤ c ∧ q = c - y ∧ E' = aput E0 9 (I y) ∧ H' = H ++ HH m rows ver ∧ grd l c 257 [] [] = grd l c f m rows ∧ rows.length + f = 257 ∧ rows.length ≤ 256 ∧ opTo l c (inP l c m) x = [] ∧ opX l (inP l c m) x y = []) (c - (x + 1)) ⟨x + 1, f, m, rows, ver, by omega, by omega, by omega, rfl, rfl, hgr, hrf, hr6, hX, by simp [opX]⟩ ?_
    clear hgr hrf hr6 hX
    rintro q E' H' ⟨y, f, m, rows, ver, hy0, hy, rfl, rfl, rfl, hgr, hrf, hr6, hX, hY⟩
    simp (config := { maxSteps := 1000000 }) (disch := (first | omega | (simp only [go_sem]; try omega))) only [go_sem, Nat.reduceAdd, Nat.reduceEqDiff, Nat.reduceLeDiff, Nat.reduceMul, Nat.reduceLT, reduceIte, Int.reduceToNat, w64_id, cast_succ]
    repeat (first | (with_reducible first | refine SW.seq ?_ | refine SW.block ?_ | refine SW.rowC ?_ | refine SW.skip ?_ | refine SW.exit ?_ | intro _ | refine And.intro (by omega) ?_) | simp (config := { maxSteps := 1000000 }) (disch := (first | omega | (simp only [go_sem]; try omega))) only [go_sem, Nat.reduceAdd, Nat.reduceEqDiff, Nat.reduceLeDiff, Nat.reduceMul, Nat.reduceLT, reduceIte, Int.reduceToNat, w64_id, cast_succ])
    (first | refine SW.condD rfl (fun h3 => ?_) (fun h3 => ?_) | refine SW.condN rfl (fun h3 => ?_) (fun h3 => ?_) | refine SW.condNB rfl (fun h3 => ?_) (fun h3 => ?_) | refine SW.condB rfl (fun h3 => ?_) (fun h3 => ?_))
    · have hyc : y < c := by omega
      repeat (first | (with_reducible first | refine SW.seq ?_ | refine SW.block ?_ | refine SW.rowC ?_ | refine SW.skip ?_ | refine SW.exit ?_ | intro _ | refine And.intro (by omega) ?_) | simp (config := { maxSteps := 1000000 }) (disch := (first | omega | (simp only [go_sem]; try omega))) only [go_sem, Nat.reduceAdd, Nat.reduceEqDiff, Nat.reduceLeDiff, Nat.reduceMul, Nat.reduceLT, reduceIte, Int.reduceToNat, w64_id, cast_succ])
      have hll : l * l ≤ 16 * 16 := Nat.mul_le_mul (by omega) (by omega)
      refine SW.loopE (fun E0 H0 q E' H' => ∃ (n f : Nat) (m : List Int) (rows : List (List Int)) (ver : Nat), n ≤ l * l ∧ q = l * l - n ∧ E' = aput E0 10 (I n) ∧ H' = H ++ HH m rows ver ∧ grd l c 257 [] [] = grd l c f m rows ∧ rows.length + f = 257 ∧ rows.length ≤ 256 ∧ opTo l c (inP l c m) x = [] ∧ opX l (inP l c m) x y = [] ∧ opY l (inP l c m) x y n = []) (l * l) ⟨0, f, m, rows, ver, by omega, by omega, rfl, rfl, hgr, hrf, hr6, hX, hY, by simp [opY]⟩ ?_
      clear hgr hrf hr6 hX hY
      rintro q E' H' ⟨n, f, m, rows, ver, hn, rfl, rfl, rfl, hgr, hrf, hr6, hX, hY, hN⟩
      have ell : ((l : Int) * (l : Int)) = ((l * l : Nat) : Int) := by simp
      simp (config := { maxSteps := 1000000 }) (disch := (first | omega | (simp only [go_sem]; try omega))) only [go_sem, Nat.reduceAdd, Nat.reduceEqDiff, Nat.reduceLeDiff, Nat.reduceMul, Nat.reduceLT, reduceIte, Int.reduceToNat, w64_id, cast_succ]
      repeat (first | (with_reducible first | refine SW.seq ?_ | refine SW.block ?_ | refine SW.rowC ?_ | refine SW.skip ?_ | refine SW.exit ?_ | intro _ | refine And.intro (by omega) ?_) | simp (config := { maxSteps := 1000000 }) (disch := (first | omega | (simp only [go_sem]; try omega))) only [go_sem, Nat.reduceAdd, Nat.reduceEqDiff, Nat.reduceLeDiff, Nat.reduceMul, Nat.reduceLT, reduceIte, Int.reduceToNat, w64_id, cast_succ, ell])
      (first | refine SW.condD rfl (fun h4 => ?_) (fun h4 => ?_) | refine SW.condN rfl (fun h4 => ?_) (fun h4 => ?_) | refine SW.condNB rfl (fun h4 => ?_) (fun h4 => ?_) | refine SW.condB rfl (fun h4 => ?_) (fun h4 => ?_))
      · have hnl : n < l * l := by omega
        have hv : n / l < l := Nat.div_lt_of_lt_mul hnl
        have hw : n % l < l := Nat.mod_lt _ (by omega)
        have hdm : n / l * l + n % l = n := Nat.div_add_mod' n l
        have hl0 : ¬ (l : Int) = 0 := by omega
        generalize hvv : n / l = v at *
        generalize hww : n % l = w at *
        have c1 := l16At_fn l c x y v w (by omega) (by omega) (by omega) (by omega) (by omega) (by omega)
        have hat := at_bd (l := l) (c := c) (by omega) (by omega) (x := (x : Int)) (y := (y : Int)) (v := (v : Int)) (w := (w : Int)) (by omega) (by omega) (by omega) (by omega)
        have hcn := inP_new (l := l) (c := c) (m := m) (x := x) (y := y) (v := v) (w := w) (by omega) (by omega) hyc hv hw
        have hopY := fun P => opY_succ l P x y v w hw
        have hih := fun hP => opAll_head (P := inP l c m) hX hY (by rw [hdm]; exact hN) (show x < y by omega) hyc hv hw hP
        rw [hdm] at hopY
        have hzl : atI l c x y v w < ((c * c * l * l : Nat) : Int) := by simp only [Int.natCast_mul]; exact hat.2.2.2.2
        have hci := hin m _ (show 0 ≤ atI l c x y v w by omega) hzl
        have hml := marks_length (c * c * l * l) m
        have hmg := marks_get (c * c * l * l) m _ (show 0 ≤ atI l c x y v w by omega) hzl
        repeat (first | (with_reducible first | refine SW.seq ?_ | refine SW.block ?_ | refine SW.rowC ?_ | refine SW.skip ?_ | refine SW.exit ?_ | refine PFn.use (c1) ?_ | refine PFn.useq (c1) ?_ | intro _ | refine And.intro (by omega) ?_) | simp (config := { maxSteps := 1000000 }) (disch := (first | omega | (simp only [go_sem]; try omega))) only [go_sem, Nat.reduceAdd, Nat.reduceEqDiff, Nat.reduceLeDiff, Nat.reduceMul, Nat.reduceLT, reduceIte, Int.reduceToNat, w64_id, cast_succ, tmodN, tdivN, hl0, hvv, hww, hH1, bB, hml, htM, hci, hmg, List.length_map])
        cases hb2 : m.contains (atI l c x y v w)
        · refine SW.condF rfl ?_
          obtain ⟨t, hop⟩ := hih hb2
          by_cases hfull : rows.length = 256
          · have d5 : decide ((rows.length : Int) = 256) = true := decide_eq_true (by omega)
            repeat (first | (with_reducible first | refine SW.seq ?_ | refine SW.block ?_ | refine SW.rowC ?_ | refine SW.skip ?_ | refine SW.exit ?_ | intro _ | refine And.intro (by omega) ?_) | simp (config := { maxSteps := 1000000 }) (disch := (first | omega | (simp only [go_sem]; try omega))) only [go_sem, Nat.reduceAdd, Nat.reduceEqDiff, Nat.reduceLeDiff, Nat.reduceMul, Nat.reduceLT, reduceIte, Int.reduceToNat, w64_id, cast_succ, htR, d5])
            refine SW.condT rfl ?_
            obtain ⟨f, rfl⟩ : ∃ f', f = f' + 1 := ⟨f - 1, by omega⟩
            rw [hgr, grd_full hop hfull]
            repeat (first | (with_reducible first | refine SW.seq ?_ | refine SW.block ?_ | refine SW.rowC ?_ | refine SW.skip ?_ | refine SW.exit ?_ | intro _ | refine And.intro (by omega) ?_) | simp (config := { maxSteps := 1000000 }) (disch := (first | omega | (simp only [go_sem]; try omega))) only [go_sem, Nat.reduceAdd, Nat.reduceEqDiff, Nat.reduceLeDiff, Nat.reduceMul, Nat.reduceLT, reduceIte, Int.reduceToNat, w64_id, cast_succ])
            refine SW.ret ?_
            refine FunPost.cell_tmp (cs := [I 0, I 0, nilS]) (by simp (config := { maxSteps := 1000000 }) (disch := (first | omega | (simp only [go_sem]; try omega))) only [go_sem, Nat.reduceAdd, Nat.reduceEqDiff, Nat.reduceLeDiff, Nat.reduceMul, Nat.reduceLT, reduceIte, Int.reduceToNat, w64_id, cast_succ]) ?_
            exact GR.froz (froz_tup2 (froz_agg3 (froz_I' _) (froz_I' _) .nil) (froz_I' _)) ⟨rfl, rfl⟩
          · have d5 : decide ((rows.length : Int) = 256) = false := decide_eq_false (by omega)
            repeat (first | (with_reducible first | refine SW.seq ?_ | refine SW.block ?_ | refine SW.rowC ?_ | refine SW.skip ?_ | refine SW.exit ?_ | intro _ | refine And.intro (by omega) ?_) | simp (config := { maxSteps := 1000000 }) (disch := (first | omega | (simp only [go_sem]; try omega))) only [go_sem, Nat.reduceAdd, Nat.reduceEqDiff, Nat.reduceLeDiff, Nat.reduceMul, Nat.reduceLT, reduceIte, Int.reduceToNat, w64_id, cast_succ, htR, d5])
            refine SW.condF rfl ?_
            obtain ⟨f, rfl⟩ : ∃ f', f = f' + 1 := ⟨f - 1, by omega⟩
            rw [grd_step hop hfull] at hgr
            obtain ⟨w1, w2, -, -⟩ := nextRow_ok (l := l) (m := m) (v := (v : Int)) (w := (w : Int)) (by omega) (by omega) (by omega) (show x < y by omega) hyc
            have hvD1 : aview (H ++ [(⟨0, tyArr, 1, [I 0, I 0, nilS]⟩ : Blk), ⟨ver, tyLL, 1, rows.map ilS⟩, ⟨0, tyArr, 1, [I l, I c, .nm (H.length + 1) ver 0 rows.length]⟩, ⟨0, 4, 1, (marks (c * c * l * l) m).map Bv⟩]) (.nm (H.length + 3) 0 0 (c * c * l * l)) = some (c * c * l * l, (marks (c * c * l * l) m).map Bv) := by
              have := hvD0 m rows ver; rw [hH1] at this; exact this
            repeat (first | (with_reducible first | refine SW.seq ?_ | refine SW.block ?_ | refine SW.rowC ?_ | refine SW.skip ?_ | refine SW.exit ?_ | intro _ | refine And.intro (by omega) ?_) | simp (config := { maxSteps := 1000000 }) (disch := (first | omega | (simp only [go_sem]; try omega))) only [go_sem, Nat.reduceAdd, Nat.reduceEqDiff, Nat.reduceLeDiff, Nat.reduceMul, Nat.reduceLT, reduceIte, Int.reduceToNat, w64_id, cast_succ, tmodN, tdivN, hl0, hvv, hww])
            refine QcallW.of (fun ext => l16Next_ok _ (.nm (H.length + 3) 0 0 (c * c * l * l)) l c m x y v w (by omega) (by omega) (by omega) (by omega) hyc (by omega) (by omega) (aview_append hvD1 ext)) ?_
            generalize hrow : nextRow l c m x y v w = row at *
            have hwv : ∀ i : Nat, i < c → 0 ≤ row.getD i 0 ∧ row.getD i 0 < l := w2
            repeat (first | (with_reducible first | refine SW.seq ?_ | refine SW.block ?_ | refine SW.rowC ?_ | refine SW.skip ?_ | refine SW.exit ?_ | intro _ | refine And.intro (by omega) ?_) | simp (config := { maxSteps := 1000000 }) (disch := (first | omega | (simp only [go_sem]; try omega))) only [go_sem, Nat.reduceAdd, Nat.reduceEqDiff, Nat.reduceLeDiff, Nat.reduceMul, Nat.reduceLT, reduceIte, Int.reduceToNat, w64_id, cast_succ])
            refine SW.loopE (fun E0 H0 q E' H' => ∃ i : Nat, i ≤ c ∧ q = c - i ∧ E' = aput E0 12 (I i) ∧ H' = H ++ [⟨0, tyArr, 1, [I 0, I 0, nilS]⟩, ⟨ver, tyLL, 1, rows.map ilS⟩, ⟨0, tyArr, 1, [I l, I c, .nm (H.length + 1) ver 0 rows.length]⟩, ⟨0, 4, 1, (marks (c * c * l * l) (m ++ codesTo l c row i)).map Bv⟩]) c ⟨0, by omega, by omega, rfl, by simp [codesTo]⟩ ?_
            rintro q E' H' ⟨i, hi, rfl, rfl, rfl⟩
            simp (config := { maxSteps := 1000000 }) (disch := (first | omega | (simp only [go_sem]; try omega))) only [go_sem, Nat.reduceAdd, Nat.reduceEqDiff, Nat.reduceLeDiff, Nat.reduceMul, Nat.reduceLT, reduceIte, Int.reduceToNat, w64_id, cast_succ]
            repeat (first | (with_reducible first | refine SW.seq ?_ | refine SW.block ?_ | refine SW.rowC ?_ | refine SW.skip ?_ | refine SW.exit ?_ | intro _ | refine And.intro (by omega) ?_) | simp (config := { maxSteps := 1000000 }) (disch := (first | omega | (simp only [go_sem]; try omega))) only [go_sem, Nat.reduceAdd, Nat.reduceEqDiff, Nat.reduceLeDiff, Nat.reduceMul, Nat.reduceLT, reduceIte, Int.reduceToNat, w64_id, cast_succ])
            (first | refine SW.condD rfl (fun h => ?_) (fun h => ?_) | refine SW.condN rfl (fun h => ?_) (fun h => ?_) | refine SW.condNB rfl (fun h => ?_) (fun h => ?_) | refine SW.condB rfl (fun h => ?_) (fun h => ?_))
            · have hic : i < c := by omega
              repeat (first | (with_reducible first | refine SW.seq ?_ | refine SW.block ?_ | refine SW.rowC ?_ | refine SW.skip ?_ | refine SW.exit ?_ | intro _ | refine And.intro (by omega) ?_) | simp (config := { maxSteps := 1000000 }) (disch := (first | omega | (simp only [go_sem]; try omega))) only [go_sem, Nat.reduceAdd, Nat.reduceEqDiff, Nat.reduceLeDiff, Nat.reduceMul, Nat.reduceLT, reduceIte, Int.reduceToNat, w64_id, cast_succ])
              refine SW.loopE (fun E0 H0 q E' H' => ∃ d : Nat, i + 1 ≤ d ∧ d ≤ c ∧ q = c - d ∧ E' = aput E0 13 (I d) ∧ H' = H ++ [⟨0, tyArr, 1, [I 0, I 0, nilS]⟩, ⟨ver, tyLL, 1, rows.map ilS⟩, ⟨0, tyArr, 1, [I l, I c, .nm (H.length + 1) ver 0 rows.length]⟩, ⟨0, 4, 1, (marks (c * c * l * l) (m ++ codesTo l c row i ++ codeC l c row i d)).map Bv⟩]) (c - (i + 1)) ⟨i + 1, by omega, by omega, by omega, rfl, by simp [codeC]⟩ ?_
              rintro q E' H' ⟨d, hd0, hd, rfl, rfl, rfl⟩
              simp (config := { maxSteps := 1000000 }) (disch := (first | omega | (simp only [go_sem]; try omega))) only [go_sem, Nat.reduceAdd, Nat.reduceEqDiff, Nat.reduceLeDiff, Nat.reduceMul, Nat.reduceLT, reduceIte, Int.reduceToNat, w64_id, cast_succ]
              repeat (first | (with_reducible first | refine SW.seq ?_ | refine SW.block ?_ | refine SW.rowC ?_ | refine SW.skip ?_ | refine SW.exit ?_ | intro _ | refine And.intro (by omega) ?_) | simp (config := { maxSteps := 1000000 }) (disch := (first | omega | (simp only [go_sem]; try omega))) only [go_sem, Nat.reduceAdd, Nat.reduceEqDiff, Nat.reduceLeDiff, Nat.reduceMul, Nat.reduceLT, reduceIte, Int.reduceToNat, w64_id, cast_succ])
              (first | refine SW.condD rfl (fun h => ?_) (fun h => ?_) | refine SW.condN rfl (fun h => ?_) (fun h => ?_) | refine SW.condNB rfl (fun h => ?_) (fun h => ?_) | refine SW.condB rfl (fun h => ?_) (fun h => ?_))
              · have hdc : d < c := by omega
                have c2 := l16At_fn l c i d (row.getD i 0) (row.getD d 0) (by omega) (by omega) (by omega) (by omega) (hwv i hic) (hwv d hdc)
                have hat2 := at_bd (l := l) (c := c) (by omega) (by omega) (x := (i : Int)) (y := (d : Int)) (v := row.getD i 0) (w := row.getD d 0) (by omega) (by omega) (hwv i hic) (hwv d hdc)
                have hcs := codeC_snoc l c row hd0
                generalize hz : atI l c i d (row.getD i 0) (row.getD d 0) = z at *
                have hzl2 : z < ((c * c * l * l : Nat) : Int) := by simp only [Int.natCast_mul]; exact hat2.2.2.2.2
                have hml2 := marks_length (c * c * l * l) (m ++ (codesTo l c row i ++ codeC l c row i d))
                repeat (first | (with_reducible first | refine SW.seq ?_ | refine SW.block ?_ | refine SW.rowC ?_ | refine SW.skip ?_ | refine SW.exit ?_ | refine PFn.use (c2) ?_ | refine PFn.useq (c2) ?_ | intro _ | refine And.intro (by omega) ?_) | simp (config := { maxSteps := 1000000 }) (disch := (first | omega | (simp only [go_sem]; try omega))) only [go_sem, Nat.reduceAdd, Nat.reduceEqDiff, Nat.reduceLeDiff, Nat.reduceMul, Nat.reduceLT, reduceIte, Int.reduceToNat, w64_id, cast_succ, htM, hml2, List.length_map])
                refine SLoop.next (c - (d + 1)) (by omega) ⟨d + 1, by omega, by omega, rfl, rfl, ?_⟩
                rw [hcs, marks_set _ _ z (by omega)]
                simp only [List.append_assoc]
              · have hdc : c = d := by omega
                subst hdc
                repeat (first | (with_reducible first | refine SW.seq ?_ | refine SW.block ?_ | refine SW.rowC ?_ | refine SW.skip ?_ | refine SW.exit ?_ | intro _ | refine And.intro (by omega) ?_) | simp (config := { maxSteps := 1000000 }) (disch := (first | omega | (simp only [go_sem]; try omega))) only [go_sem, Nat.reduceAdd, Nat.reduceEqDiff, Nat.reduceLeDiff, Nat.reduceMul, Nat.reduceLT, reduceIte, Int.reduceToNat, w64_id, cast_succ])
                refine SLoop.next (c - (i + 1)) (by omega) ⟨i + 1, by omega, rfl, rfl, ?_⟩
                rw [codesTo_succ]
            · have hic : c = i := by omega
              subst hic
              repeat (first | (with_reducible first | refine SW.seq ?_ | refine SW.block ?_ | refine SW.rowC ?_ | refine SW.skip ?_ | refine SW.exit ?_ | intro _ | refine And.intro (by omega) ?_) | simp (config := { maxSteps := 1000000 }) (disch := (first | omega | (simp only [go_sem]; try omega))) only [go_sem, Nat.reduceAdd, Nat.reduceEqDiff, Nat.reduceLeDiff, Nat.reduceMul, Nat.reduceLT, reduceIte, Int.reduceToNat, w64_id, cast_succ, htR])
              have hcd : codesTo l c row c = codes l c row := rfl
              refine SLoop.nextT 4 (l * l - (n + 1)) hB (by omega) (by omega) (by simp) ?_ ?_ ⟨n + 1, f, m ++ codes l c row, rows ++ [row], ver + 1, by omega, rfl, rfl, ?_, hgr, by simp; omega, by simp; omega, opTo_mono (fun x y v w h => inP_app x y v w h) hX, opX_mono (fun x y v w h => inP_app x y v w h) hY, ?_⟩
              · (simp only [go_sem, Nat.reduceAdd, Nat.reduceEqDiff, reduceIte, go_sem, and_self, and_true, true_and, implies_true, List.take_succ_cons, List.take_zero, and_true, true_and]; try omega)
              · (simp only [go_sem, Nat.reduceAdd, Nat.reduceEqDiff, reduceIte, go_sem, and_self, and_true, true_and, implies_true, List.take_succ_cons, List.take_zero, and_true, true_and]; try omega)
              · rw [hcd]; simp
              · rw [hopY, opY_mono (fun x y v w h => inP_app x y v w h) hN, if_pos hcn]; rfl
        · refine SW.condT rfl ?_
          repeat (first | (with_reducible first | refine SW.seq ?_ | refine SW.block ?_ | refine SW.rowC ?_ | refine SW.skip ?_ | refine SW.exit ?_ | intro _ | refine And.intro (by omega) ?_) | simp (config := { maxSteps := 1000000 }) (disch := (first | omega | (simp only [go_sem]; try omega))) only [go_sem, Nat.reduceAdd, Nat.reduceEqDiff, Nat.reduceLeDiff, Nat.reduceMul, Nat.reduceLT, reduceIte, Int.reduceToNat, w64_id, cast_succ])
          refine SLoop.next (l * l - (n + 1)) (by omega) ⟨n + 1, f, m, rows, ver, by omega, rfl, rfl, rfl, hgr, hrf, hr6, hX, hY, ?_⟩
          rw [hopY, hN, if_pos (show inP l c m x y v w = true from hb2)]; rfl
      · have hnl : n = l * l := by omega
        subst hnl
        repeat (first | (with_reducible first | refine SW.seq ?_ | refine SW.block ?_ | refine SW.rowC ?_ | refine SW.skip ?_ | refine SW.exit ?_ | intro _ | refine And.intro (by omega) ?_) | simp (config := { maxSteps := 1000000 }) (disch := (first | omega | (simp only [go_sem]; try omega))) only [go_sem, Nat.reduceAdd, Nat.reduceEqDiff, Nat.reduceLeDiff, Nat.reduceMul, Nat.reduceLT, reduceIte, Int.reduceToNat, w64_id, cast_succ])
        refine SLoop.next (c - (y + 1)) (by omega) ⟨y + 1, f, m, rows, ver, by omega, by omega, rfl, rfl, rfl, hgr, hrf, hr6, hX, ?_⟩
        rw [opX_succ l _ (by omega), hY, hN]; rfl
    · have hyc : c = y := by omega
      subst hyc
      repeat (first | (with_reducible first | refine SW.seq ?_ | refine SW.block ?_ | refine SW.rowC ?_ | refine SW.skip ?_ | refine SW.exit ?_ | intro _ | refine And.intro (by omega) ?_) | simp (config := { maxSteps := 1000000 }) (disch := (first | omega | (simp only [go_sem]; try omega))) only [go_sem, Nat.reduceAdd, Nat.reduceEqDiff, Nat.reduceLeDiff, Nat.reduceMul, Nat.reduceLT, reduceIte, Int.reduceToNat, w64_id, cast_succ])
      refine SLoop.next (c - (x + 1)) (by omega) ⟨x + 1, f, m, rows, ver, by omega, rfl, rfl, rfl, hgr, hrf, hr6, ?_⟩
      rw [opTo_succ, hX, hY]; rfl
  · have hxc : c = x := by omega
    subst hxc
    repeat (first | (with_reducible first | refine SW.seq ?_ | refine SW.block ?_ | refine SW.rowC ?_ | refine SW.skip ?_ | refine SW.exit ?_ | intro _ | refine And.intro (by omega) ?_) | simp (config := { maxSteps := 1000000 }) (disch := (first | omega | (simp only [go_sem]; try omega))) only [go_sem, Nat.reduceAdd, Nat.reduceEqDiff, Nat.reduceLeDiff, Nat.reduceMul, Nat.reduceLT, reduceIte, Int.reduceToNat, w64_id, cast_succ])
    obtain ⟨f, rfl⟩ : ∃ f', f = f' + 1 := ⟨f - 1, by omega⟩
    rw [hgr, grd_done hX]
    have hz2 := pc_lds (off := 0) (n := 3) (hg2 m rows ver []) (by simp)
    rw [List.append_nil] at hz2
    repeat (first | (with_reducible first | refine SW.seq ?_ | refine SW.block ?_ | refine SW.rowC ?_ | refine SW.skip ?_ | refine SW.exit ?_ | intro _ | refine And.intro (by omega) ?_) | simp (config := { maxSteps := 1000000 }) (disch := (first | omega | (simp only [go_sem]; try omega))) only [go_sem, Nat.reduceAdd, Nat.reduceEqDiff, Nat.reduceLeDiff, Nat.reduceMul, Nat.reduceLT, reduceIte, Int.reduceToNat, w64_id, cast_succ, hH1, bB])
    refine SW.ret ?_
    refine FunPost.cell_tmp (cs := [I l, I c, .nm (H.length + 1) ver 0 rows.length]) (by simp (config := { maxSteps := 1000000 }) (disch := (first | omega | (simp only [go_sem]; try omega))) only [go_sem, Nat.reduceAdd, Nat.reduceEqDiff, Nat.reduceLeDiff, Nat.reduceMul, Nat.reduceLT, reduceIte, Int.reduceToNat, w64_id, cast_succ]) ?_
    exact GR.froz (froz_tup2 (froz_agg3 (froz_I' _) (froz_I' _) (froz_rowS (ver := ver) (ty := tyLL) (by omega) (by rw [List.getElem?_append_right (by omega), Nat.add_sub_cancel_left]; rfl))) (froz_I' _)) ⟨rfl, rfl⟩
end Go.Proofs.Ythogadbnddmkdaa
