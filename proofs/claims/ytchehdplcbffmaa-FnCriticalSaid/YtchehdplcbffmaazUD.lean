/- Critical sets: the law. -/
import Derived.Test.YtchehdplcbffmaaProg
import Derived.KernelRfl
import Derived.Test.YtchehdplcbffmaazUB
import Derived.Test.YtchehdplcbffmaazUC
import Derived.Test.YtchehdplcbffmaazSB
set_option linter.unusedSimpArgs false
set_option linter.unusedVariables false
set_option maxHeartbeats 4000000
set_option maxRecDepth 100000
namespace Go.Proofs.Ytchehdplcbffmaa
open Go.Av
abbrev f_laws_FnCritical : Nat := 3
def c_laws_FnCritical : SC :=
 .seq (.reg [
     ⟨(some 4), .mv (.const (.bool false)), none⟩] [0, 1])
 (.seq (.seq (.reg [
     ⟨(some 19), .mv (.tmp 0), none⟩,
     ⟨(some 20), .call 8 [(.tmp 19)], none⟩,
     ⟨(some 21), .mv (.tmp 20), none⟩,
     ⟨(some 22), .mv (.tmp 1), (some (21, false))⟩,
     ⟨(some 23), .call 8 [(.tmp 22)], (some (21, false))⟩,
     ⟨(some 24), .pick (.tmp 21) (.const (.bool true)) (.tmp 23), none⟩] [0, 1, 24])
 (.cond (.tmp 24)
  (.seq (.reg [
      ⟨(some 4), .mv (.const (.bool true)), none⟩] [4])
  (.ret))
  (.skip)))
 (.seq (.reg [
     ⟨(some 26), .mv (.tmp 0), none⟩,
     ⟨(some 27), .call 9 [(.tmp 26)], none⟩,
     ⟨(some 25), .mv (.tmp 27), none⟩,
     ⟨(some 28), .ext (.tmp 25) 0, none⟩,
     ⟨(some 29), .ext (.tmp 25) 1, none⟩,
     ⟨(some 5), .mv (.tmp 28), none⟩,
     ⟨(some 6), .mv (.tmp 29), none⟩] [1, 5, 6])
 (.seq (.reg [
     ⟨(some 31), .mv (.tmp 5), none⟩,
     ⟨(some 32), .mv (.tmp 6), none⟩,
     ⟨(some 33), .call 10 [(.tmp 31), (.tmp 32)], none⟩,
     ⟨(some 30), .mv (.tmp 33), none⟩,
     ⟨(some 34), .ext (.tmp 30) 0, none⟩,
     ⟨(some 35), .ext (.tmp 30) 1, none⟩,
     ⟨(some 7), .mv (.tmp 34), none⟩,
     ⟨(some 8), .mv (.tmp 35), none⟩] [1, 5, 6, 7, 8])
 (.seq (.reg [
     ⟨(some 37), .mv (.tmp 5), none⟩,
     ⟨(some 38), .mv (.tmp 6), none⟩,
     ⟨(some 39), .call 11 [(.tmp 37), (.tmp 38)], none⟩,
     ⟨(some 36), .mv (.tmp 39), none⟩,
     ⟨(some 40), .ext (.tmp 36) 0, none⟩,
     ⟨(some 41), .ext (.tmp 36) 1, none⟩,
     ⟨(some 9), .mv (.tmp 40), none⟩,
     ⟨(some 10), .mv (.tmp 41), none⟩] [1, 5, 6, 7, 8, 9, 10])
 (.seq (.seq (.reg [
     ⟨(some 42), .mv (.tmp 8), none⟩,
     ⟨(some 43), .bin .eql (.tmp 42) (.const (.int .i64 0)), none⟩,
     ⟨(some 44), .mv (.tmp 43), none⟩,
     ⟨(some 45), .mv (.tmp 10), (some (44, true))⟩,
     ⟨(some 46), .bin .eql (.tmp 45) (.const (.int .i64 0)), (some (44, true))⟩,
     ⟨(some 47), .pick (.tmp 44) (.tmp 46) (.const (.bool false)), none⟩,
     ⟨(some 48), .mv (.tmp 47), none⟩,
     ⟨(some 49), .mv (.tmp 7), (some (48, true))⟩,
     ⟨(some 50), .mv (.tmp 9), (some (48, true))⟩,
     ⟨(some 51), .binb true (.tmp 49) (.tmp 50), (some (48, true))⟩,
     ⟨(some 52), .pick (.tmp 48) (.tmp 51) (.const (.bool false)), none⟩] [1, 5, 6, 7, 8, 52])
 (.cond (.tmp 52)
  (.seq (.reg [
      ⟨(some 4), .mv (.const (.bool false)), none⟩] [4])
  (.ret))
  (.skip)))
 (.seq (.seq (.reg [
     ⟨(some 53), .mv (.tmp 8), none⟩,
     ⟨(some 54), .bin .neq (.tmp 53) (.const (.int .i64 0)), none⟩,
     ⟨(some 55), .mv (.tmp 54), none⟩,
     ⟨(some 56), .mv (.tmp 7), (some (55, false))⟩,
     ⟨(some 57), .un .not (.tmp 56), (some (55, false))⟩,
     ⟨(some 58), .pick (.tmp 55) (.const (.bool true)) (.tmp 57), none⟩] [1, 5, 6, 7, 8, 58])
 (.cond (.tmp 58)
  (.seq (.reg [
      ⟨(some 59), .mv (.tmp 8), none⟩,
      ⟨(some 60), .bin .eql (.tmp 59) (.const (.int .i64 0)), none⟩,
      ⟨(some 61), .mv (.tmp 60), none⟩,
      ⟨(some 62), .mv (.tmp 7), (some (61, false))⟩,
      ⟨(some 63), .un .not (.tmp 62), (some (61, false))⟩,
      ⟨(some 64), .pick (.tmp 61) (.const (.bool true)) (.tmp 63), none⟩,
      ⟨(some 4), .mv (.tmp 64), none⟩] [4])
  (.ret))
  (.skip)))
 (.seq (.reg [
     ⟨(some 66), .mv (.tmp 5), none⟩,
     ⟨(some 67), .mv (.tmp 6), none⟩,
     ⟨(some 68), .call 12 [(.tmp 66), (.const (.int .i64 2)), (.tmp 67)], none⟩,
     ⟨(some 65), .mv (.tmp 68), none⟩,
     ⟨(some 69), .ext (.tmp 65) 0, none⟩,
     ⟨(some 70), .ext (.tmp 65) 1, none⟩,
     ⟨(some 11), .mv (.tmp 69), none⟩,
     ⟨(some 12), .mv (.tmp 70), none⟩] [1, 5, 6, 11, 12])
 (.seq (.seq (.reg [
     ⟨(some 71), .mv (.tmp 12), none⟩,
     ⟨(some 72), .bin .neq (.tmp 71) (.const (.int .i64 0)), none⟩,
     ⟨(some 73), .mv (.tmp 72), none⟩,
     ⟨(some 74), .mv (.tmp 11), (some (73, false))⟩,
     ⟨(some 75), .bin .neq (.tmp 74) (.const (.int .i64 1)), (some (73, false))⟩,
     ⟨(some 76), .pick (.tmp 73) (.const (.bool true)) (.tmp 75), none⟩] [1, 5, 6, 76])
 (.cond (.tmp 76)
  (.seq (.reg [
      ⟨(some 4), .mv (.const (.bool false)), none⟩] [4])
  (.ret))
  (.skip)))
 (.seq (.reg [
     ⟨(some 77), .mv (.tmp 5), none⟩,
     ⟨(some 78), .len (.tmp 77), none⟩,
     ⟨(some 13), .mv (.tmp 78), none⟩] [1, 5, 6, 13])
 (.seq (.reg [
     ⟨(some 79), .mv (.tmp 1), none⟩,
     ⟨(some 80), .mv (.tmp 13), none⟩,
     ⟨(some 81), .mv (.tmp 13), none⟩,
     ⟨(some 82), .bin .mul (.tmp 80) (.tmp 81), none⟩,
     ⟨(some 83), .call 13 [(.tmp 79), (.const (.int .i64 0)), (.tmp 82)], none⟩,
     ⟨(some 14), .mv (.tmp 83), none⟩] [5, 6, 14])
 (.seq (.reg [
     ⟨(some 85), .mv (.tmp 5), none⟩,
     ⟨(some 86), .mv (.tmp 14), none⟩,
     ⟨(some 87), .bslice 2 1 1 [(.int .i64 0)] [(0, (.tmp 86))], none⟩,
     ⟨(some 88), .call 14 [(.tmp 85), (.tmp 87)], none⟩,
     ⟨(some 84), .mv (.tmp 88), none⟩,
     ⟨(some 89), .ext (.tmp 84) 0, none⟩,
     ⟨(some 90), .ext (.tmp 84) 1, none⟩,
     ⟨(some 15), .mv (.tmp 89), none⟩,
     ⟨(some 16), .mv (.tmp 90), none⟩] [5, 6, 15, 16])
 (.seq (.seq (.reg [
     ⟨(some 91), .mv (.tmp 16), none⟩,
     ⟨(some 92), .bin .neq (.tmp 91) (.const (.int .i64 0)), none⟩] [5, 6, 15, 92])
 (.cond (.tmp 92)
  (.seq (.reg [
      ⟨(some 4), .mv (.const (.bool false)), none⟩] [4])
  (.ret))
  (.skip)))
 (.seq (.reg [
     ⟨(some 94), .mv (.tmp 15), none⟩,
     ⟨(some 95), .mv (.tmp 6), none⟩,
     ⟨(some 96), .call 12 [(.tmp 94), (.const (.int .i64 2)), (.tmp 95)], none⟩,
     ⟨(some 93), .mv (.tmp 96), none⟩,
     ⟨(some 97), .ext (.tmp 93) 0, none⟩,
     ⟨(some 98), .ext (.tmp 93) 1, none⟩,
     ⟨(some 17), .mv (.tmp 97), none⟩,
     ⟨(some 18), .mv (.tmp 98), none⟩] [5, 15, 17, 18])
 (.seq (.seq (.reg [
     ⟨(some 99), .mv (.tmp 15), none⟩,
     ⟨(some 100), .call 15 [(.tmp 99)], none⟩,
     ⟨(some 101), .mv (.tmp 5), none⟩,
     ⟨(some 102), .call 15 [(.tmp 101)], none⟩,
     ⟨(some 103), .bin .eql (.tmp 100) (.tmp 102), none⟩] [17, 18, 103])
 (.cond (.tmp 103)
  (.seq (.reg [
      ⟨(some 104), .mv (.tmp 18), none⟩,
      ⟨(some 105), .bin .eql (.tmp 104) (.const (.int .i64 0)), none⟩,
      ⟨(some 106), .mv (.tmp 105), none⟩,
      ⟨(some 107), .mv (.tmp 17), (some (106, true))⟩,
      ⟨(some 108), .bin .eql (.tmp 107) (.const (.int .i64 1)), (some (106, true))⟩,
      ⟨(some 109), .pick (.tmp 106) (.tmp 108) (.const (.bool false)), none⟩,
      ⟨(some 4), .mv (.tmp 109), none⟩] [4])
  (.ret))
  (.skip)))
 (.seq (.reg [
     ⟨(some 110), .mv (.tmp 18), none⟩,
     ⟨(some 111), .bin .eql (.tmp 110) (.const (.int .i64 0)), none⟩,
     ⟨(some 112), .mv (.tmp 111), none⟩,
     ⟨(some 113), .mv (.tmp 17), (some (112, true))⟩,
     ⟨(some 114), .bin .eql (.tmp 113) (.const (.int .i64 2)), (some (112, true))⟩,
     ⟨(some 115), .pick (.tmp 112) (.tmp 114) (.const (.bool false)), none⟩,
     ⟨(some 4), .mv (.tmp 115), none⟩] [4])
 (.ret))))))))))))))))
theorem s_laws_FnCritical : stripF Try.prog 3 [[0, 1], [0, 1, 24], [4], [1, 5, 6], [1, 5, 6, 7, 8], [1, 5, 6, 7, 8, 9, 10], [1, 5, 6, 7, 8, 52], [4], [1, 5, 6, 7, 8, 58], [4], [1, 5, 6, 11, 12], [1, 5, 6, 76], [4], [1, 5, 6, 13], [5, 6, 14], [5, 6, 15, 16], [5, 6, 15, 92], [4], [5, 15, 17, 18], [17, 18, 103], [4], [4]] = some (c_laws_FnCritical, [.tmp 4], 116) := by kernel_rfl
theorem lawFnCritical_ok (H : List Blk) (ns ms : List Int) (hz : ∀ z ∈ ns, 0 ≤ z ∧ z < 256) (hy : ∀ z ∈ ms, 0 ≤ z ∧ z < 256) : ACalls Try.prog f_laws_FnCritical [ilY ns, ilY ms] H (fun r _ => r = Bv true) := by
  have hbn := fun k => Bel_ilY k ns
  have hbm := fun k => Bel_ilY k ms
  have l1 := b10Long_fn ns
  have l2 := b10Long_fn ms
  by_cases h1 : (1048576 : Int) < ns.length
  · rw [decide_eq_true h1] at l1
    refine ACalls.introB s_laws_FnCritical (by simp) ?_; intro hB hA; unfold c_laws_FnCritical; simp (config := { maxSteps := 1000000 }) (disch := (first | omega | (simp only [go_sem]; try omega))) only [go_sem, Nat.reduceAdd, Nat.reduceEqDiff, Nat.reduceLeDiff, Nat.reduceMul, Nat.reduceLT, reduceIte, Int.reduceToNat, w64_id, cast_succ]
    repeat (first | (with_reducible first | refine SW.seq ?_ | refine SW.block ?_ | refine SW.rowC ?_ | refine SW.skip ?_ | refine SW.exit ?_ | refine PFn.use (l1) ?_ | refine PFn.useq (l1) ?_ | intro _ | refine And.intro (by omega) ?_) | simp (config := { maxSteps := 1000000 }) (disch := (first | omega | (simp only [go_sem]; try omega))) only [go_sem, Nat.reduceAdd, Nat.reduceEqDiff, Nat.reduceLeDiff, Nat.reduceMul, Nat.reduceLT, reduceIte, Int.reduceToNat, w64_id, cast_succ])
    refine SW.condT rfl ?_
    repeat (first | (with_reducible first | refine SW.seq ?_ | refine SW.block ?_ | refine SW.rowC ?_ | refine SW.skip ?_ | refine SW.exit ?_ | intro _ | refine And.intro (by omega) ?_) | simp (config := { maxSteps := 1000000 }) (disch := (first | omega | (simp only [go_sem]; try omega))) only [go_sem, Nat.reduceAdd, Nat.reduceEqDiff, Nat.reduceLeDiff, Nat.reduceMul, Nat.reduceLT, reduceIte, Int.reduceToNat, w64_id, cast_succ])
    refine SW.ret ?_; (try simp only [go_sem]); (first | refine FunPost.one ?_ | refine FunPost.two ?_ | refine FunPost.three ?_); (try simp (config := { maxSteps := 1000000 }) (disch := (first | omega | (simp only [go_sem]; try omega))) only [go_sem, Nat.reduceAdd, Nat.reduceEqDiff, Nat.reduceLeDiff, Nat.reduceMul, Nat.reduceLT, reduceIte, Int.reduceToNat, w64_id, cast_succ])
    exact GR.of rfl
  rw [decide_eq_false h1] at l1
  by_cases h2 : (1048576 : Int) < ms.length
  · rw [decide_eq_true h2] at l2
    refine ACalls.introB s_laws_FnCritical (by simp) ?_; intro hB hA; unfold c_laws_FnCritical; simp (config := { maxSteps := 1000000 }) (disch := (first | omega | (simp only [go_sem]; try omega))) only [go_sem, Nat.reduceAdd, Nat.reduceEqDiff, Nat.reduceLeDiff, Nat.reduceMul, Nat.reduceLT, reduceIte, Int.reduceToNat, w64_id, cast_succ]
    repeat (first | (with_reducible first | refine SW.seq ?_ | refine SW.block ?_ | refine SW.rowC ?_ | refine SW.skip ?_ | refine SW.exit ?_ | refine PFn.use (l1) ?_ | refine PFn.useq (l1) ?_ | refine PFn.use (l2) ?_ | refine PFn.useq (l2) ?_ | intro _ | refine And.intro (by omega) ?_) | simp (config := { maxSteps := 1000000 }) (disch := (first | omega | (simp only [go_sem]; try omega))) only [go_sem, Nat.reduceAdd, Nat.reduceEqDiff, Nat.reduceLeDiff, Nat.reduceMul, Nat.reduceLT, reduceIte, Int.reduceToNat, w64_id, cast_succ])
    refine SW.condT rfl ?_
    repeat (first | (with_reducible first | refine SW.seq ?_ | refine SW.block ?_ | refine SW.rowC ?_ | refine SW.skip ?_ | refine SW.exit ?_ | intro _ | refine And.intro (by omega) ?_) | simp (config := { maxSteps := 1000000 }) (disch := (first | omega | (simp only [go_sem]; try omega))) only [go_sem, Nat.reduceAdd, Nat.reduceEqDiff, Nat.reduceLeDiff, Nat.reduceMul, Nat.reduceLT, reduceIte, Int.reduceToNat, w64_id, cast_succ])
    refine SW.ret ?_; (try simp only [go_sem]); (first | refine FunPost.one ?_ | refine FunPost.two ?_ | refine FunPost.three ?_); (try simp (config := { maxSteps := 1000000 }) (disch := (first | omega | (simp only [go_sem]; try omega))) only [go_sem, Nat.reduceAdd, Nat.reduceEqDiff, Nat.reduceLeDiff, Nat.reduceMul, Nat.reduceLT, reduceIte, Int.reduceToNat, w64_id, cast_succ])
    exact GR.of rfl
  rw [decide_eq_false h2] at l2
  refine ACalls.introB s_laws_FnCritical (by simp) ?_; intro hB hA; unfold c_laws_FnCritical; simp (config := { maxSteps := 1000000 }) (disch := (first | omega | (simp only [go_sem]; try omega))) only [go_sem, Nat.reduceAdd, Nat.reduceEqDiff, Nat.reduceLeDiff, Nat.reduceMul, Nat.reduceLT, reduceIte, Int.reduceToNat, w64_id, cast_succ]
  repeat (first | (with_reducible first | refine SW.seq ?_ | refine SW.block ?_ | refine SW.rowC ?_ | refine SW.skip ?_ | refine SW.exit ?_ | refine PFn.use (l1) ?_ | refine PFn.useq (l1) ?_ | refine PFn.use (l2) ?_ | refine PFn.useq (l2) ?_ | intro _ | refine And.intro (by omega) ?_) | simp (config := { maxSteps := 1000000 }) (disch := (first | omega | (simp only [go_sem]; try omega))) only [go_sem, Nat.reduceAdd, Nat.reduceEqDiff, Nat.reduceLeDiff, Nat.reduceMul, Nat.reduceLT, reduceIte, Int.reduceToNat, w64_id, cast_succ])
  refine SW.condF rfl ?_
  repeat (first | (with_reducible first | refine SW.seq ?_ | refine SW.block ?_ | refine SW.rowC ?_ | refine SW.skip ?_ | refine SW.exit ?_ | intro _ | refine And.intro (by omega) ?_) | simp (config := { maxSteps := 1000000 }) (disch := (first | omega | (simp only [go_sem]; try omega))) only [go_sem, Nat.reduceAdd, Nat.reduceEqDiff, Nat.reduceLeDiff, Nat.reduceMul, Nat.reduceLT, reduceIte, Int.reduceToNat, w64_id, cast_succ])
  refine (DrawIsCritical_ok _ ns hz (by omega)).mono ?_
  rintro r H1 ⟨rfl, p, b, hp1, hp10, hpm, rfl⟩
  have im := implIsCritical_fn p b
  have sp := specIsCritical_fn p b
  by_cases h0 : (icV p b).2 = 0
  · rw [h0] at im sp
    cases hcr : (icV p b).1 with
    | false =>
      rw [hcr] at im sp
      repeat (first | (with_reducible first | refine SW.seq ?_ | refine SW.block ?_ | refine SW.rowC ?_ | refine SW.skip ?_ | refine SW.exit ?_ | refine PFn.use (im) ?_ | refine PFn.useq (im) ?_ | refine PFn.use (sp) ?_ | refine PFn.useq (sp) ?_ | intro _ | refine And.intro (by omega) ?_) | simp (config := { maxSteps := 1000000 }) (disch := (first | omega | (simp only [go_sem]; try omega))) only [go_sem, Nat.reduceAdd, Nat.reduceEqDiff, Nat.reduceLeDiff, Nat.reduceMul, Nat.reduceLT, reduceIte, Int.reduceToNat, w64_id, cast_succ])
      refine SW.condF rfl ?_
      repeat (first | (with_reducible first | refine SW.seq ?_ | refine SW.block ?_ | refine SW.rowC ?_ | refine SW.skip ?_ | refine SW.exit ?_ | intro _ | refine And.intro (by omega) ?_) | simp (config := { maxSteps := 1000000 }) (disch := (first | omega | (simp only [go_sem]; try omega))) only [go_sem, Nat.reduceAdd, Nat.reduceEqDiff, Nat.reduceLeDiff, Nat.reduceMul, Nat.reduceLT, reduceIte, Int.reduceToNat, w64_id, cast_succ])
      refine SW.condT rfl ?_
      repeat (first | (with_reducible first | refine SW.seq ?_ | refine SW.block ?_ | refine SW.rowC ?_ | refine SW.skip ?_ | refine SW.exit ?_ | intro _ | refine And.intro (by omega) ?_) | simp (config := { maxSteps := 1000000 }) (disch := (first | omega | (simp only [go_sem]; try omega))) only [go_sem, Nat.reduceAdd, Nat.reduceEqDiff, Nat.reduceLeDiff, Nat.reduceMul, Nat.reduceLT, reduceIte, Int.reduceToNat, w64_id, cast_succ])
      refine SW.ret ?_; (try simp only [go_sem]); (first | refine FunPost.one ?_ | refine FunPost.two ?_ | refine FunPost.three ?_); (try simp (config := { maxSteps := 1000000 }) (disch := (first | omega | (simp only [go_sem]; try omega))) only [go_sem, Nat.reduceAdd, Nat.reduceEqDiff, Nat.reduceLeDiff, Nat.reduceMul, Nat.reduceLT, reduceIte, Int.reduceToNat, w64_id, cast_succ])
      exact GR.of rfl
    | true =>
      rw [hcr] at im sp
      repeat (first | (with_reducible first | refine SW.seq ?_ | refine SW.block ?_ | refine SW.rowC ?_ | refine SW.skip ?_ | refine SW.exit ?_ | refine PFn.use (im) ?_ | refine PFn.useq (im) ?_ | refine PFn.use (sp) ?_ | refine PFn.useq (sp) ?_ | intro _ | refine And.intro (by omega) ?_) | simp (config := { maxSteps := 1000000 }) (disch := (first | omega | (simp only [go_sem]; try omega))) only [go_sem, Nat.reduceAdd, Nat.reduceEqDiff, Nat.reduceLeDiff, Nat.reduceMul, Nat.reduceLT, reduceIte, Int.reduceToNat, w64_id, cast_succ])
      obtain ⟨hp, b1, b2, hc1, hall⟩ := icV_true hcr h0
      obtain ⟨b, rfl⟩ := Int.eq_ofNat_of_zero_le (show 0 ≤ b by omega)
      rw [Int.toNat_natCast] at hc1 hall
      have hcc := fun q (hq : partB q = true) => ccV_2 hq (b := b) (by omega)
      have ict := implCount_fn p 2 b
      rw [hcc p hp, hc1] at ict
      have hf := partB_facts hp
      have hnn : p.length * p.length ≤ 100 := Nat.mul_le_mul hf.2.1 hf.2.1
      have hn1 : 1 ≤ p.length * p.length := Nat.mul_le_mul hf.1 hf.1
      have hw2 : w64 ((p.length : Int) * p.length) = ((p.length * p.length : Nat) : Int) := by rw [← Int.natCast_mul]; exact w64_id (by omega) (by omega)
      refine SW.condF rfl ?_
      repeat (first | (with_reducible first | refine SW.seq ?_ | refine SW.block ?_ | refine SW.rowC ?_ | refine SW.skip ?_ | refine SW.exit ?_ | intro _ | refine And.intro (by omega) ?_) | simp (config := { maxSteps := 1000000 }) (disch := (first | omega | (simp only [go_sem]; try omega))) only [go_sem, Nat.reduceAdd, Nat.reduceEqDiff, Nat.reduceLeDiff, Nat.reduceMul, Nat.reduceLT, reduceIte, Int.reduceToNat, w64_id, cast_succ])
      refine SW.condF rfl ?_
      repeat (first | (with_reducible first | refine SW.seq ?_ | refine SW.block ?_ | refine SW.rowC ?_ | refine SW.skip ?_ | refine SW.exit ?_ | refine PFn.use (ict) ?_ | refine PFn.useq (ict) ?_ | intro _ | refine And.intro (by omega) ?_) | simp (config := { maxSteps := 1000000 }) (disch := (first | omega | (simp only [go_sem]; try omega))) only [go_sem, Nat.reduceAdd, Nat.reduceEqDiff, Nat.reduceLeDiff, Nat.reduceMul, Nat.reduceLT, reduceIte, Int.reduceToNat, w64_id, cast_succ])
      refine SW.condF rfl ?_
      repeat (first | (with_reducible first | refine SW.seq ?_ | refine SW.block ?_ | refine SW.rowC ?_ | refine SW.skip ?_ | refine SW.exit ?_ | intro _ | refine And.intro (by omega) ?_) | simp (config := { maxSteps := 1000000 }) (disch := (first | omega | (simp only [go_sem]; try omega))) only [go_sem, Nat.reduceAdd, Nat.reduceEqDiff, Nat.reduceLeDiff, Nat.reduceMul, Nat.reduceLT, reduceIte, Int.reduceToNat, w64_id, cast_succ, hw2])
      refine (b10AtG _ ms 0 (p.length * p.length) hy (by omega) (by omega) (by omega) (by omega)).mono ?_
      rintro r H2 ⟨rfl, c, rfl, hc⟩
      have hcl := ClearCells_fss p c hp hc
      have hcel := cel_at hc
      have hpc := partB_clear hp hcel.1 hcel.2
      have ict2 := implCount_fn (setC p (c / p.length) (c % p.length) (-1)) 2 b
      rw [hcc _ hpc] at ict2
      have fp := FilledCells_fn p hp
      have fq := FilledCells_fn _ hpc
      have hsq := setC_ok (v := -1) (x := c / p.length) (y := c % p.length) (⟨rfl, hf.2.2⟩ : p.length = p.length ∧ ∀ r ∈ p, r.length = p.length)
      rw [hsq.1] at fq
      repeat (first | (with_reducible first | refine SW.seq ?_ | refine SW.block ?_ | refine SW.rowC ?_ | refine SW.skip ?_ | refine SW.exit ?_ | intro _ | refine And.intro (by omega) ?_) | simp (config := { maxSteps := 1000000 }) (disch := (first | omega | (simp only [go_sem]; try omega))) only [go_sem, Nat.reduceAdd, Nat.reduceEqDiff, Nat.reduceLeDiff, Nat.reduceMul, Nat.reduceLT, reduceIte, Int.reduceToNat, w64_id, cast_succ])
      refine (hcl.lendf (.cons (froz_ilSS p) (.cons (froz_rowI (ver := 0) (ty := 2) (xs := [(c : Int)]) (r := H2.length) (Nat.zero_le _) (by simp)) .nil))).mono ?_
      rintro r H3 ⟨rfl, rfl⟩
      repeat (first | (with_reducible first | refine SW.seq ?_ | refine SW.block ?_ | refine SW.rowC ?_ | refine SW.skip ?_ | refine SW.exit ?_ | intro _ | refine And.intro (by omega) ?_) | simp (config := { maxSteps := 1000000 }) (disch := (first | omega | (simp only [go_sem]; try omega))) only [go_sem, Nat.reduceAdd, Nat.reduceEqDiff, Nat.reduceLeDiff, Nat.reduceMul, Nat.reduceLT, reduceIte, Int.reduceToNat, w64_id, cast_succ])
      refine SW.condF rfl ?_
      by_cases he : cellAt p (c / p.length) (c % p.length) = -1
      · have hrl : (p.getD (c / p.length) []).length = p.length := hf.2.2 _ (by rw [getD_get hcel.1]; exact List.getElem_mem _)
        have hsame : setC p (c / p.length) (c % p.length) (-1) = p := setC_same hcel.1 (by rw [hrl]; exact hcel.2) he
        rw [hsame] at ict2 fq ⊢
        rw [hc1] at ict2
        repeat (first | (with_reducible first | refine SW.seq ?_ | refine SW.block ?_ | refine SW.rowC ?_ | refine SW.skip ?_ | refine SW.exit ?_ | refine PFn.use (ict2) ?_ | refine PFn.useq (ict2) ?_ | refine PFn.use (fp) ?_ | refine PFn.useq (fp) ?_ | refine PFn.use (fp) ?_ | refine PFn.useq (fp) ?_ | intro _ | refine And.intro (by omega) ?_) | simp (config := { maxSteps := 1000000 }) (disch := (first | omega | (simp only [go_sem]; try omega))) only [go_sem, Nat.reduceAdd, Nat.reduceEqDiff, Nat.reduceLeDiff, Nat.reduceMul, Nat.reduceLT, reduceIte, Int.reduceToNat, w64_id, cast_succ])
        refine SW.condT (by simp [go_sem]) ?_
        repeat (first | (with_reducible first | refine SW.seq ?_ | refine SW.block ?_ | refine SW.rowC ?_ | refine SW.skip ?_ | refine SW.exit ?_ | intro _ | refine And.intro (by omega) ?_) | simp (config := { maxSteps := 1000000 }) (disch := (first | omega | (simp only [go_sem]; try omega))) only [go_sem, Nat.reduceAdd, Nat.reduceEqDiff, Nat.reduceLeDiff, Nat.reduceMul, Nat.reduceLT, reduceIte, Int.reduceToNat, w64_id, cast_succ])
        refine SW.ret ?_; (try simp only [go_sem]); (first | refine FunPost.one ?_ | refine FunPost.two ?_ | refine FunPost.three ?_); (try simp (config := { maxSteps := 1000000 }) (disch := (first | omega | (simp only [go_sem]; try omega))) only [go_sem, Nat.reduceAdd, Nat.reduceEqDiff, Nat.reduceLeDiff, Nat.reduceMul, Nat.reduceLT, reduceIte, Int.reduceToNat, w64_id, cast_succ])
        exact GR.of rfl
      · have hc2 := hall c hc he
        rw [hc2] at ict2
        have hem := empT_clear (p := p) (n := p.length) (c := c) ⟨rfl, hf.2.2⟩ hc he (p.length * p.length)
        rw [if_pos hc] at hem
        rw [hem] at fq
        generalize setC p (c / p.length) (c % p.length) (-1) = q at *
        repeat (first | (with_reducible first | refine SW.seq ?_ | refine SW.block ?_ | refine SW.rowC ?_ | refine SW.skip ?_ | refine SW.exit ?_ | refine PFn.use (ict2) ?_ | refine PFn.useq (ict2) ?_ | refine PFn.use (fp) ?_ | refine PFn.useq (fp) ?_ | refine PFn.use (fq) ?_ | refine PFn.useq (fq) ?_ | intro _ | refine And.intro (by omega) ?_) | simp (config := { maxSteps := 1000000 }) (disch := (first | omega | (simp only [go_sem]; try omega))) only [go_sem, Nat.reduceAdd, Nat.reduceEqDiff, Nat.reduceLeDiff, Nat.reduceMul, Nat.reduceLT, reduceIte, Int.reduceToNat, w64_id, cast_succ])
        refine SW.condF (show Bv _ = Bv false by rw [decide_eq_false (by omega)]) ?_
        repeat (first | (with_reducible first | refine SW.seq ?_ | refine SW.block ?_ | refine SW.rowC ?_ | refine SW.skip ?_ | refine SW.exit ?_ | intro _ | refine And.intro (by omega) ?_) | simp (config := { maxSteps := 1000000 }) (disch := (first | omega | (simp only [go_sem]; try omega))) only [go_sem, Nat.reduceAdd, Nat.reduceEqDiff, Nat.reduceLeDiff, Nat.reduceMul, Nat.reduceLT, reduceIte, Int.reduceToNat, w64_id, cast_succ])
        refine SW.ret ?_; (try simp only [go_sem]); (first | refine FunPost.one ?_ | refine FunPost.two ?_ | refine FunPost.three ?_); (try simp (config := { maxSteps := 1000000 }) (disch := (first | omega | (simp only [go_sem]; try omega))) only [go_sem, Nat.reduceAdd, Nat.reduceEqDiff, Nat.reduceLeDiff, Nat.reduceMul, Nat.reduceLT, reduceIte, Int.reduceToNat, w64_id, cast_succ])
        exact GR.of rfl
  · have hcr := icV_code h0
    rw [hcr] at im sp
    generalize (icV p b).2 = k at *
    repeat (first | (with_reducible first | refine SW.seq ?_ | refine SW.block ?_ | refine SW.rowC ?_ | refine SW.skip ?_ | refine SW.exit ?_ | refine PFn.use (im) ?_ | refine PFn.useq (im) ?_ | refine PFn.use (sp) ?_ | refine PFn.useq (sp) ?_ | intro _ | refine And.intro (by omega) ?_) | simp (config := { maxSteps := 1000000 }) (disch := (first | omega | (simp only [go_sem]; try omega))) only [go_sem, Nat.reduceAdd, Nat.reduceEqDiff, Nat.reduceLeDiff, Nat.reduceMul, Nat.reduceLT, reduceIte, Int.reduceToNat, w64_id, cast_succ, h0])
    refine SW.condF rfl ?_
    repeat (first | (with_reducible first | refine SW.seq ?_ | refine SW.block ?_ | refine SW.rowC ?_ | refine SW.skip ?_ | refine SW.exit ?_ | intro _ | refine And.intro (by omega) ?_) | simp (config := { maxSteps := 1000000 }) (disch := (first | omega | (simp only [go_sem]; try omega))) only [go_sem, Nat.reduceAdd, Nat.reduceEqDiff, Nat.reduceLeDiff, Nat.reduceMul, Nat.reduceLT, reduceIte, Int.reduceToNat, w64_id, cast_succ, h0])
    refine SW.condT rfl ?_
    repeat (first | (with_reducible first | refine SW.seq ?_ | refine SW.block ?_ | refine SW.rowC ?_ | refine SW.skip ?_ | refine SW.exit ?_ | intro _ | refine And.intro (by omega) ?_) | simp (config := { maxSteps := 1000000 }) (disch := (first | omega | (simp only [go_sem]; try omega))) only [go_sem, Nat.reduceAdd, Nat.reduceEqDiff, Nat.reduceLeDiff, Nat.reduceMul, Nat.reduceLT, reduceIte, Int.reduceToNat, w64_id, cast_succ, h0])
    refine SW.ret ?_; (try simp only [go_sem]); (first | refine FunPost.one ?_ | refine FunPost.two ?_ | refine FunPost.three ?_); (try simp (config := { maxSteps := 1000000 }) (disch := (first | omega | (simp only [go_sem]; try omega))) only [go_sem, Nat.reduceAdd, Nat.reduceEqDiff, Nat.reduceLeDiff, Nat.reduceMul, Nat.reduceLT, reduceIte, Int.reduceToNat, w64_id, cast_succ])
    exact GR.of rfl
end Go.Proofs.Ytchehdplcbffmaa
