/- Texts of numbers and lists: the program. -/
import Derived.Test.YtdgcgckehihboaaGreatDoorProg
import Derived.KernelRfl
import Derived.Lib.ParseIntBTie
import Derived.Test.YtdgcgckehihboaaGreatDoorzZE
import Derived.Test.YtdgcgckehihboaaGreatDoorzIX
import Derived.Test.YtdgcgckehihboaaGreatDoorzE4
set_option linter.unusedSimpArgs false
set_option linter.unusedVariables false
set_option linter.unusedSectionVars false
set_option maxHeartbeats 4000000
set_option maxRecDepth 100000
namespace Go.Proofs.YtdgcgckehihboaaGreatDoor
variable [Go.Av.DoorC] [Go.Proofs.YtdgcgckehihboaaGreatDoor.DoorT]
open Go.Av
abbrev f_impl_ReadDecimal : Nat := 19
def c_impl_ReadDecimal : SC :=
 .seq (.reg [
     ⟨(some 2), .mv (.const (.int .i64 0)), none⟩,
     ⟨(some 3), .mv (.const (.bool false)), none⟩] [0])
 (.seq (.reg [
     ⟨(some 7), .mv (.tmp 0), none⟩,
     ⟨(some 8), .call 40 [(.tmp 7), (.const (.string ⟨#[45]⟩))], none⟩,
     ⟨(some 4), .mv (.tmp 8), none⟩] [0, 4])
 (.seq (.seq (.reg [
     ⟨(some 9), .mv (.tmp 4), none⟩,
     ⟨(some 10), .sop .len [(.tmp 9)], none⟩,
     ⟨(some 11), .bin .lss (.tmp 10) (.const (.int .i64 1)), none⟩,
     ⟨(some 12), .mv (.tmp 11), none⟩,
     ⟨(some 13), .mv (.tmp 4), (some (12, false))⟩,
     ⟨(some 14), .sop .len [(.tmp 13)], (some (12, false))⟩,
     ⟨(some 15), .bin .gtr (.tmp 14) (.const (.int .i64 18)), (some (12, false))⟩,
     ⟨(some 16), .pick (.tmp 12) (.const (.bool true)) (.tmp 15), none⟩] [0, 16])
 (.cond (.tmp 16)
  (.seq (.reg [
      ⟨(some 2), .mv (.const (.int .i64 0)), none⟩,
      ⟨(some 3), .mv (.const (.bool false)), none⟩] [2, 3])
  (.ret))
  (.skip)))
 (.seq (.reg [
     ⟨(some 18), .mv (.tmp 0), none⟩,
     ⟨(some 19), .call 41 [(.tmp 18), (.const (.int .i64 10)), (.const (.int .i64 64))], none⟩,
     ⟨(some 17), .mv (.tmp 19), none⟩,
     ⟨(some 20), .ext (.tmp 17) 0, none⟩,
     ⟨(some 21), .ext (.tmp 17) 1, none⟩,
     ⟨(some 5), .mv (.tmp 20), none⟩,
     ⟨(some 6), .mv (.tmp 21), none⟩] [0, 5, 6])
 (.seq (.seq (.reg [
     ⟨(some 22), .mv (.tmp 6), none⟩,
     ⟨(some 23), .sop (.nil true) [(.tmp 22)], none⟩,
     ⟨(some 24), .mv (.tmp 23), none⟩,
     ⟨(some 25), .mv (.tmp 5), (some (24, false))⟩,
     ⟨(some 26), .call 20 [(.tmp 25)], (some (24, false))⟩,
     ⟨(some 27), .mv (.tmp 0), (some (24, false))⟩,
     ⟨(some 28), .sop (.eql true) [(.tmp 26), (.tmp 27)], (some (24, false))⟩,
     ⟨(some 29), .pick (.tmp 24) (.const (.bool true)) (.tmp 28), none⟩] [5, 29])
 (.cond (.tmp 29)
  (.seq (.reg [
      ⟨(some 2), .mv (.const (.int .i64 0)), none⟩,
      ⟨(some 3), .mv (.const (.bool false)), none⟩] [2, 3])
  (.ret))
  (.skip)))
 (.seq (.reg [
     ⟨(some 30), .mv (.tmp 5), none⟩,
     ⟨(some 2), .mv (.tmp 30), none⟩,
     ⟨(some 3), .mv (.const (.bool true)), none⟩] [2, 3])
 (.ret))))))
theorem s_impl_ReadDecimal : stripF Tryz.prog 19 [[0], [0, 4], [0, 16], [2, 3], [0, 5, 6], [5, 29], [2, 3], [2, 3]] = some (c_impl_ReadDecimal, [.tmp 2, .tmp 3], 31) := by kernel_rfl
abbrev f_impl_Decimal : Nat := 20
def c_impl_Decimal : SC :=
 .seq (.reg [
     ⟨(some 2), .mv (.const (.string ByteArray.empty)), none⟩] [0])
 (.seq (.reg [
     ⟨(some 3), .mv (.tmp 0), none⟩,
     ⟨(some 4), .call 42 [(.tmp 3), (.const (.int .i64 10))], none⟩,
     ⟨(some 2), .mv (.tmp 4), none⟩] [2])
 (.ret))
theorem s_impl_Decimal : stripF Tryz.prog 20 [[0], [2]] = some (c_impl_Decimal, [.tmp 2], 5) := by kernel_rfl
abbrev f_impl_ListText : Nat := 21
def c_impl_ListText : SC :=
 .seq (.reg [
     ⟨(some 2), .mv (.const (.string ByteArray.empty)), none⟩] [0])
 (.seq (.seq (.reg [
     ⟨(some 6), .mv (.tmp 0), none⟩,
     ⟨(some 7), .len (.tmp 6), none⟩,
     ⟨(some 8), .bin .gtr (.tmp 7) (.const (.int .i64 100)), none⟩,
     ⟨(some 9), .mv (.tmp 8), none⟩,
     ⟨(some 10), .mv (.tmp 0), (some (9, false))⟩,
     ⟨(some 11), .call 43 [(.tmp 10), (.func 44)], (some (9, false))⟩,
     ⟨(some 12), .pick (.tmp 9) (.const (.bool true)) (.tmp 11), none⟩] [0, 12])
 (.cond (.tmp 12)
  (.seq (.reg [
      ⟨(some 2), .mv (.const (.string ByteArray.empty)), none⟩] [2])
  (.ret))
  (.skip)))
 (.seq (.seq (.reg [
     ⟨(some 13), .mv (.tmp 0), none⟩,
     ⟨(some 14), .len (.tmp 13), none⟩,
     ⟨(some 15), .bin .eql (.tmp 14) (.const (.int .i64 0)), none⟩] [0, 15])
 (.cond (.tmp 15)
  (.seq (.reg [
      ⟨(some 2), .mv (.const (.string ⟨#[45]⟩)), none⟩] [2])
  (.ret))
  (.skip)))
 (.seq (.reg [
     ⟨(some 3), .mv (.const (.slice none 0 0)), none⟩] [0, 3])
 (.seq (.seq (.reg [
     ⟨(some 16), .mv (.tmp 0), none⟩,
     ⟨(some 17), .len (.tmp 16), none⟩,
     ⟨(some 18), .mv (.const (.int .i64 0)), none⟩] [3, 16, 17, 18])
 (.block 0 (.loop [3, 16, 17, 18]
   (.seq (.reg [
       ⟨(some 19), .bin .lss (.tmp 18) (.tmp 17), none⟩] [3, 16, 17, 18, 19])
   (.seq (.cond (.tmp 19)
    (.skip)
    (.exit 0))
   (.seq (.block 1 (.seq (.reg [
        ⟨(some 20), .iaddr 1 (.tmp 16) (.tmp 18), none⟩,
        ⟨(some 21), .load 1 false (.tmp 20), none⟩,
        ⟨(some 5), .mv (.tmp 21), none⟩] [3, 5, 16, 17, 18])
    (.reg [
        ⟨(some 22), .mv (.tmp 3), none⟩,
        ⟨(some 23), .mv (.tmp 5), none⟩,
        ⟨(some 24), .call 20 [(.tmp 23)], none⟩,
        ⟨(some 25), .bslice 9 1 1 [(.string ByteArray.empty)] [(0, (.tmp 24))], none⟩,
        ⟨(some 26), .app 9 1 16 (.tmp 22) (.tmp 25), none⟩,
        ⟨(some 3), .mv (.tmp 26), none⟩] [3, 16, 17, 18])))
   (.reg [
       ⟨(some 27), .bin .add (.tmp 18) (.const (.int .i64 1)), none⟩,
       ⟨(some 18), .mv (.tmp 27), none⟩] [3, 16, 17, 18])))))))
 (.seq (.reg [
     ⟨(some 28), .mv (.tmp 3), none⟩,
     ⟨(some 29), .call 22 [(.tmp 28), (.const (.string ⟨#[44]⟩))], none⟩,
     ⟨(some 2), .mv (.tmp 29), none⟩] [2])
 (.ret))))))
theorem s_impl_ListText : stripF Tryz.prog 21 [[0], [0, 12], [2], [0, 15], [2], [0, 3], [3, 16, 17, 18], [3, 16, 17, 18], [3, 16, 17, 18, 19], [3, 5, 16, 17, 18], [3, 16, 17, 18], [3, 16, 17, 18], [2]] = some (c_impl_ListText, [.tmp 2], 30) := by kernel_rfl
abbrev f_impl_ListText_c1 : Nat := 44
def c_impl_ListText_c1 : SC :=
 .seq (.reg [
     ⟨(some 2), .mv (.const (.bool false)), none⟩] [0])
 (.seq (.reg [
     ⟨(some 3), .mv (.tmp 0), none⟩,
     ⟨(some 4), .call 45 [(.tmp 3), (.const (.int .i64 (-999999999))), (.const (.int .i64 999999999))], none⟩,
     ⟨(some 5), .un .not (.tmp 4), none⟩,
     ⟨(some 2), .mv (.tmp 5), none⟩] [2])
 (.ret))
theorem s_impl_ListText_c1 : stripF Tryz.prog 44 [[0], [2]] = some (c_impl_ListText_c1, [.tmp 2], 6) := by kernel_rfl
theorem decimal_fn (n : Int) (h0 : -9223372036854775808 ≤ n) (h1 : n ≤ 9223372036854775807) : PFn Tryz.prog f_impl_Decimal [I n] (Tx (Lib.itoa n)) := by
  have hf := fmt_fn n h0 h1
  intro H
  refine ACalls.introB s_impl_Decimal (by simp) ?_; intro hB hA; unfold c_impl_Decimal; simp (config := { maxSteps := 1000000 }) (disch := (first | omega | (simp only [go_sem]; try omega))) only [go_sem, Nat.reduceAdd, Nat.reduceEqDiff, Nat.reduceLeDiff, Nat.reduceMul, Nat.reduceLT, reduceIte, Int.reduceToNat, w64_id, cast_succ]
  repeat (first | (with_reducible first | refine SW.seq ?_ | refine SW.block ?_ | refine SW.rowC ?_ | refine SW.skip ?_ | refine SW.exit ?_ | refine PFn.use (hf) ?_ | refine PFn.useq (hf) ?_ | intro _ | refine And.intro (by omega) ?_) | simp (config := { maxSteps := 1000000 }) (disch := (first | omega | (simp only [go_sem]; try omega))) only [go_sem, Nat.reduceAdd, Nat.reduceEqDiff, Nat.reduceLeDiff, Nat.reduceMul, Nat.reduceLT, reduceIte, Int.reduceToNat, w64_id, cast_succ])
  refine SW.ret ?_; (try simp only [go_sem]); (first | refine FunPost.one ?_ | refine FunPost.two ?_ | refine FunPost.three ?_); (try simp (config := { maxSteps := 1000000 }) (disch := (first | omega | (simp only [go_sem]; try omega))) only [go_sem, Nat.reduceAdd, Nat.reduceEqDiff, Nat.reduceLeDiff, Nat.reduceMul, Nat.reduceLT, reduceIte, Int.reduceToNat, w64_id, cast_succ]); (first | (with_reducible refine GR.drop ?_ ?_; (simp only [go_sem, and_self, and_true, true_and, implies_true, List.take_succ_cons, List.take_zero])) | refine GR.of ?_); refine ⟨?_, rfl⟩; (try with_reducible rfl)
theorem readDecimal_fn (s : List UInt8) (hs : s.length ≤ 2000000) : PFn Tryz.prog f_impl_ReadDecimal [Tx s] (.tup [I ((rdD s).getD 0), Bv (rdD s).isSome]) := by
  have ht := trim_fn s [45]
  unfold rdD
  generalize Lib.trimPrefix s [45] = t at *
  intro H
  refine ACalls.introB s_impl_ReadDecimal (by simp) ?_; intro hB hA; unfold c_impl_ReadDecimal; simp (config := { maxSteps := 1000000 }) (disch := (first | omega | (simp only [go_sem]; try omega))) only [go_sem, Nat.reduceAdd, Nat.reduceEqDiff, Nat.reduceLeDiff, Nat.reduceMul, Nat.reduceLT, reduceIte, Int.reduceToNat, w64_id, cast_succ]
  repeat (first | (with_reducible first | refine SW.seq ?_ | refine SW.block ?_ | refine SW.rowC ?_ | refine SW.skip ?_ | refine SW.exit ?_ | refine PFn.use (ht) ?_ | refine PFn.useq (ht) ?_ | intro _ | refine And.intro (by omega) ?_) | simp (config := { maxSteps := 1000000 }) (disch := (first | omega | (simp only [go_sem]; try omega))) only [go_sem, Nat.reduceAdd, Nat.reduceEqDiff, Nat.reduceLeDiff, Nat.reduceMul, Nat.reduceLT, reduceIte, Int.reduceToNat, w64_id, cast_succ])
  by_cases hl : 1 ≤ t.length ∧ t.length ≤ 18
  · rw [if_pos hl]
    have d1 : decide ((t.length : Int) < 1) = false := decide_eq_false (by omega)
    have d2 : decide ((18 : Int) < (t.length : Int)) = false := decide_eq_false (by omega)
    repeat (first | (with_reducible first | refine SW.seq ?_ | refine SW.block ?_ | refine SW.rowC ?_ | refine SW.skip ?_ | refine SW.exit ?_ | intro _ | refine And.intro (by omega) ?_) | simp (config := { maxSteps := 1000000 }) (disch := (first | omega | (simp only [go_sem]; try omega))) only [go_sem, Nat.reduceAdd, Nat.reduceEqDiff, Nat.reduceLeDiff, Nat.reduceMul, Nat.reduceLT, reduceIte, Int.reduceToNat, w64_id, cast_succ, d1, d2])
    refine SW.condF rfl ?_
    rcases hp : Lib.parseIntB 64 s with v | _ | _
    · have hb := Lib.parseIntB_bounds hp
      have hb1 : -9223372036854775808 ≤ v ∧ v ≤ 9223372036854775807 := by
        have h2 : ((2 ^ (64 - 1) : Nat) : Int) = 9223372036854775808 := by decide
        rw [h2] at hb; omega
      have hd := decimal_fn v hb1.1 hb1.2
      simp only
      repeat (first | (with_reducible first | refine SW.seq ?_ | refine SW.block ?_ | refine SW.rowC ?_ | refine SW.skip ?_ | refine SW.exit ?_ | refine PFn.use (parse_ok s v (by omega) hp) ?_ | refine PFn.useq (parse_ok s v (by omega) hp) ?_ | intro _ | refine And.intro (by omega) ?_) | simp (config := { maxSteps := 1000000 }) (disch := (first | omega | (simp only [go_sem]; try omega))) only [go_sem, Nat.reduceAdd, Nat.reduceEqDiff, Nat.reduceLeDiff, Nat.reduceMul, Nat.reduceLT, reduceIte, Int.reduceToNat, w64_id, cast_succ])
      by_cases hi : Lib.itoa v = s
      · have d3 : decide (Lib.itoa v = s) = true := decide_eq_true hi
        rw [if_pos hi]
        repeat (first | (with_reducible first | refine SW.seq ?_ | refine SW.block ?_ | refine SW.rowC ?_ | refine SW.skip ?_ | refine SW.exit ?_ | refine PFn.use (hd) ?_ | refine PFn.useq (hd) ?_ | intro _ | refine And.intro (by omega) ?_) | simp (config := { maxSteps := 1000000 }) (disch := (first | omega | (simp only [go_sem]; try omega))) only [go_sem, Nat.reduceAdd, Nat.reduceEqDiff, Nat.reduceLeDiff, Nat.reduceMul, Nat.reduceLT, reduceIte, Int.reduceToNat, w64_id, cast_succ, d3, Bool.not_true])
        refine SW.condF rfl ?_
        repeat (first | (with_reducible first | refine SW.seq ?_ | refine SW.block ?_ | refine SW.rowC ?_ | refine SW.skip ?_ | refine SW.exit ?_ | intro _ | refine And.intro (by omega) ?_) | simp (config := { maxSteps := 1000000 }) (disch := (first | omega | (simp only [go_sem]; try omega))) only [go_sem, Nat.reduceAdd, Nat.reduceEqDiff, Nat.reduceLeDiff, Nat.reduceMul, Nat.reduceLT, reduceIte, Int.reduceToNat, w64_id, cast_succ])
        refine SW.ret ?_; (try simp only [go_sem]); (first | refine FunPost.one ?_ | refine FunPost.two ?_ | refine FunPost.three ?_); (try simp (config := { maxSteps := 1000000 }) (disch := (first | omega | (simp only [go_sem]; try omega))) only [go_sem, Nat.reduceAdd, Nat.reduceEqDiff, Nat.reduceLeDiff, Nat.reduceMul, Nat.reduceLT, reduceIte, Int.reduceToNat, w64_id, cast_succ]); (first | (with_reducible refine GR.drop ?_ ?_; (simp only [go_sem, and_self, and_true, true_and, implies_true, List.take_succ_cons, List.take_zero])) | refine GR.of ?_); refine ⟨?_, rfl⟩; (try with_reducible rfl)
        rfl
      · have d3 : decide (Lib.itoa v = s) = false := decide_eq_false hi
        rw [if_neg hi]
        repeat (first | (with_reducible first | refine SW.seq ?_ | refine SW.block ?_ | refine SW.rowC ?_ | refine SW.skip ?_ | refine SW.exit ?_ | refine PFn.use (hd) ?_ | refine PFn.useq (hd) ?_ | intro _ | refine And.intro (by omega) ?_) | simp (config := { maxSteps := 1000000 }) (disch := (first | omega | (simp only [go_sem]; try omega))) only [go_sem, Nat.reduceAdd, Nat.reduceEqDiff, Nat.reduceLeDiff, Nat.reduceMul, Nat.reduceLT, reduceIte, Int.reduceToNat, w64_id, cast_succ, d3, Bool.not_false])
        refine SW.condT rfl ?_
        repeat (first | (with_reducible first | refine SW.seq ?_ | refine SW.block ?_ | refine SW.rowC ?_ | refine SW.skip ?_ | refine SW.exit ?_ | intro _ | refine And.intro (by omega) ?_) | simp (config := { maxSteps := 1000000 }) (disch := (first | omega | (simp only [go_sem]; try omega))) only [go_sem, Nat.reduceAdd, Nat.reduceEqDiff, Nat.reduceLeDiff, Nat.reduceMul, Nat.reduceLT, reduceIte, Int.reduceToNat, w64_id, cast_succ])
        refine SW.ret ?_; (try simp only [go_sem]); (first | refine FunPost.one ?_ | refine FunPost.two ?_ | refine FunPost.three ?_); (try simp (config := { maxSteps := 1000000 }) (disch := (first | omega | (simp only [go_sem]; try omega))) only [go_sem, Nat.reduceAdd, Nat.reduceEqDiff, Nat.reduceLeDiff, Nat.reduceMul, Nat.reduceLT, reduceIte, Int.reduceToNat, w64_id, cast_succ]); (first | (with_reducible refine GR.drop ?_ ?_; (simp only [go_sem, and_self, and_true, true_and, implies_true, List.take_succ_cons, List.take_zero])) | refine GR.of ?_); refine ⟨?_, rfl⟩; (try with_reducible rfl)
        rfl
    · have he := fun HH => parse_err HH s (by omega) (fun v h => by rw [hp] at h; cases h)
      simp only
      repeat (first | (with_reducible first | refine SW.seq ?_ | refine SW.block ?_ | refine SW.rowC ?_ | refine SW.skip ?_ | refine SW.exit ?_ | intro _ | refine And.intro (by omega) ?_) | simp (config := { maxSteps := 1000000 }) (disch := (first | omega | (simp only [go_sem]; try omega))) only [go_sem, Nat.reduceAdd, Nat.reduceEqDiff, Nat.reduceLeDiff, Nat.reduceMul, Nat.reduceLT, reduceIte, Int.reduceToNat, w64_id, cast_succ])
      refine (he _).mono ?_
      rintro r H' ⟨⟨v, q, z, rfl⟩, rfl⟩
      repeat (first | (with_reducible first | refine SW.seq ?_ | refine SW.block ?_ | refine SW.rowC ?_ | refine SW.skip ?_ | refine SW.exit ?_ | intro _ | refine And.intro (by omega) ?_) | simp (config := { maxSteps := 1000000 }) (disch := (first | omega | (simp only [go_sem]; try omega))) only [go_sem, Nat.reduceAdd, Nat.reduceEqDiff, Nat.reduceLeDiff, Nat.reduceMul, Nat.reduceLT, reduceIte, Int.reduceToNat, w64_id, cast_succ])
      refine SW.condT rfl ?_
      repeat (first | (with_reducible first | refine SW.seq ?_ | refine SW.block ?_ | refine SW.rowC ?_ | refine SW.skip ?_ | refine SW.exit ?_ | intro _ | refine And.intro (by omega) ?_) | simp (config := { maxSteps := 1000000 }) (disch := (first | omega | (simp only [go_sem]; try omega))) only [go_sem, Nat.reduceAdd, Nat.reduceEqDiff, Nat.reduceLeDiff, Nat.reduceMul, Nat.reduceLT, reduceIte, Int.reduceToNat, w64_id, cast_succ])
      refine SW.ret ?_; (try simp only [go_sem]); (first | refine FunPost.one ?_ | refine FunPost.two ?_ | refine FunPost.three ?_); (try simp (config := { maxSteps := 1000000 }) (disch := (first | omega | (simp only [go_sem]; try omega))) only [go_sem, Nat.reduceAdd, Nat.reduceEqDiff, Nat.reduceLeDiff, Nat.reduceMul, Nat.reduceLT, reduceIte, Int.reduceToNat, w64_id, cast_succ]); (first | (with_reducible refine GR.drop ?_ ?_; (simp only [go_sem, and_self, and_true, true_and, implies_true, List.take_succ_cons, List.take_zero])) | refine GR.of ?_); refine ⟨?_, rfl⟩; (try with_reducible rfl)
      rfl
    · have he := fun HH => parse_err HH s (by omega) (fun v h => by rw [hp] at h; cases h)
      simp only
      repeat (first | (with_reducible first | refine SW.seq ?_ | refine SW.block ?_ | refine SW.rowC ?_ | refine SW.skip ?_ | refine SW.exit ?_ | intro _ | refine And.intro (by omega) ?_) | simp (config := { maxSteps := 1000000 }) (disch := (first | omega | (simp only [go_sem]; try omega))) only [go_sem, Nat.reduceAdd, Nat.reduceEqDiff, Nat.reduceLeDiff, Nat.reduceMul, Nat.reduceLT, reduceIte, Int.reduceToNat, w64_id, cast_succ])
      refine (he _).mono ?_
      rintro r H' ⟨⟨v, q, z, rfl⟩, rfl⟩
      repeat (first | (with_reducible first | refine SW.seq ?_ | refine SW.block ?_ | refine SW.rowC ?_ | refine SW.skip ?_ | refine SW.exit ?_ | intro _ | refine And.intro (by omega) ?_) | simp (config := { maxSteps := 1000000 }) (disch := (first | omega | (simp only [go_sem]; try omega))) only [go_sem, Nat.reduceAdd, Nat.reduceEqDiff, Nat.reduceLeDiff, Nat.reduceMul, Nat.reduceLT, reduceIte, Int.reduceToNat, w64_id, cast_succ])
      refine SW.condT rfl ?_
      repeat (first | (with_reducible first | refine SW.seq ?_ | refine SW.block ?_ | refine SW.rowC ?_ | refine SW.skip ?_ | refine SW.exit ?_ | intro _ | refine And.intro (by omega) ?_) | simp (config := { maxSteps := 1000000 }) (disch := (first | omega | (simp only [go_sem]; try omega))) only [go_sem, Nat.reduceAdd, Nat.reduceEqDiff, Nat.reduceLeDiff, Nat.reduceMul, Nat.reduceLT, reduceIte, Int.reduceToNat, w64_id, cast_succ])
      refine SW.ret ?_; (try simp only [go_sem]); (first | refine FunPost.one ?_ | refine FunPost.two ?_ | refine FunPost.three ?_); (try simp (config := { maxSteps := 1000000 }) (disch := (first | omega | (simp only [go_sem]; try omega))) only [go_sem, Nat.reduceAdd, Nat.reduceEqDiff, Nat.reduceLeDiff, Nat.reduceMul, Nat.reduceLT, reduceIte, Int.reduceToNat, w64_id, cast_succ]); (first | (with_reducible refine GR.drop ?_ ?_; (simp only [go_sem, and_self, and_true, true_and, implies_true, List.take_succ_cons, List.take_zero])) | refine GR.of ?_); refine ⟨?_, rfl⟩; (try with_reducible rfl)
      rfl
  · rw [if_neg hl]
    (first | refine GSplit.df (fun h5 => ?_) (fun h5 => ?_) | refine GSplit.dt (fun h5 => ?_) (fun h5 => ?_) | refine GSplit.ndf (fun h5 => ?_) (fun h5 => ?_) | refine GSplit.ndt (fun h5 => ?_) (fun h5 => ?_) | refine GSplit.nbf (fun h5 => ?_) (fun h5 => ?_) | refine GSplit.nbt (fun h5 => ?_) (fun h5 => ?_) | refine GSplit.bf (fun h5 => ?_) (fun h5 => ?_) | refine GSplit.bt (fun h5 => ?_) (fun h5 => ?_))
    · have d2 : decide ((18 : Int) < (t.length : Int)) = true := decide_eq_true (by omega)
      repeat (first | (with_reducible first | refine SW.seq ?_ | refine SW.block ?_ | refine SW.rowC ?_ | refine SW.skip ?_ | refine SW.exit ?_ | intro _ | refine And.intro (by omega) ?_) | simp (config := { maxSteps := 1000000 }) (disch := (first | omega | (simp only [go_sem]; try omega))) only [go_sem, Nat.reduceAdd, Nat.reduceEqDiff, Nat.reduceLeDiff, Nat.reduceMul, Nat.reduceLT, reduceIte, Int.reduceToNat, w64_id, cast_succ, d2])
      refine SW.condT rfl ?_
      repeat (first | (with_reducible first | refine SW.seq ?_ | refine SW.block ?_ | refine SW.rowC ?_ | refine SW.skip ?_ | refine SW.exit ?_ | intro _ | refine And.intro (by omega) ?_) | simp (config := { maxSteps := 1000000 }) (disch := (first | omega | (simp only [go_sem]; try omega))) only [go_sem, Nat.reduceAdd, Nat.reduceEqDiff, Nat.reduceLeDiff, Nat.reduceMul, Nat.reduceLT, reduceIte, Int.reduceToNat, w64_id, cast_succ])
      refine SW.ret ?_; (try simp only [go_sem]); (first | refine FunPost.one ?_ | refine FunPost.two ?_ | refine FunPost.three ?_); (try simp (config := { maxSteps := 1000000 }) (disch := (first | omega | (simp only [go_sem]; try omega))) only [go_sem, Nat.reduceAdd, Nat.reduceEqDiff, Nat.reduceLeDiff, Nat.reduceMul, Nat.reduceLT, reduceIte, Int.reduceToNat, w64_id, cast_succ]); (first | (with_reducible refine GR.drop ?_ ?_; (simp only [go_sem, and_self, and_true, true_and, implies_true, List.take_succ_cons, List.take_zero])) | refine GR.of ?_); refine ⟨?_, rfl⟩; (try with_reducible rfl)
      rfl
    · refine SW.condT rfl ?_
      repeat (first | (with_reducible first | refine SW.seq ?_ | refine SW.block ?_ | refine SW.rowC ?_ | refine SW.skip ?_ | refine SW.exit ?_ | intro _ | refine And.intro (by omega) ?_) | simp (config := { maxSteps := 1000000 }) (disch := (first | omega | (simp only [go_sem]; try omega))) only [go_sem, Nat.reduceAdd, Nat.reduceEqDiff, Nat.reduceLeDiff, Nat.reduceMul, Nat.reduceLT, reduceIte, Int.reduceToNat, w64_id, cast_succ])
      refine SW.ret ?_; (try simp only [go_sem]); (first | refine FunPost.one ?_ | refine FunPost.two ?_ | refine FunPost.three ?_); (try simp (config := { maxSteps := 1000000 }) (disch := (first | omega | (simp only [go_sem]; try omega))) only [go_sem, Nat.reduceAdd, Nat.reduceEqDiff, Nat.reduceLeDiff, Nat.reduceMul, Nat.reduceLT, reduceIte, Int.reduceToNat, w64_id, cast_succ]); (first | (with_reducible refine GR.drop ?_ ?_; (simp only [go_sem, and_self, and_true, true_and, implies_true, List.take_succ_cons, List.take_zero])) | refine GR.of ?_); refine ⟨?_, rfl⟩; (try with_reducible rfl)
      rfl
theorem GrowF.frozT {H : List Blk} {base ty n b : Nat} {v : AV} {xs : List (List UInt8)} (h : GrowF H base ty 1 v n (xs.map Tx)) (hb : b ≤ base) : Froz H b v (ilT xs) := by
  rcases h with ⟨rfl, h0, h1⟩ | ⟨r, ver, rfl, h1, h2, h3⟩
  · have : xs = [] := by simpa using h1
    subst this
    exact .nil
  · exact froz_T (by omega) h2 (by simpa using h3.symm)
theorem listText_c1_fn (n : Int) : PFn Tryz.prog f_impl_ListText_c1 [I n] (Bv (!(decide (-999999999 ≤ n) && decide (n ≤ 999999999)))) := by
  intro H; refine ACalls.introB s_impl_ListText_c1 (by simp) ?_; intro hB hA; unfold c_impl_ListText_c1; simp (config := { maxSteps := 1000000 }) (disch := (first | omega | (simp only [go_sem]; try omega))) only [go_sem, Nat.reduceAdd, Nat.reduceEqDiff, Nat.reduceLeDiff, Nat.reduceMul, Nat.reduceLT, reduceIte, Int.reduceToNat, w64_id, cast_succ]
  repeat (first | (with_reducible first | refine SW.seq ?_ | refine SW.block ?_ | refine SW.rowC ?_ | refine SW.skip ?_ | refine SW.exit ?_ | refine PFn.use (within_fn _ _ _) ?_ | refine PFn.useq (within_fn _ _ _) ?_ | intro _ | refine And.intro (by omega) ?_) | simp (config := { maxSteps := 1000000 }) (disch := (first | omega | (simp only [go_sem]; try omega))) only [go_sem, Nat.reduceAdd, Nat.reduceEqDiff, Nat.reduceLeDiff, Nat.reduceMul, Nat.reduceLT, reduceIte, Int.reduceToNat, w64_id, cast_succ])
  refine SW.ret ?_; (try simp only [go_sem]); (first | refine FunPost.one ?_ | refine FunPost.two ?_ | refine FunPost.three ?_); (try simp (config := { maxSteps := 1000000 }) (disch := (first | omega | (simp only [go_sem]; try omega))) only [go_sem, Nat.reduceAdd, Nat.reduceEqDiff, Nat.reduceLeDiff, Nat.reduceMul, Nat.reduceLT, reduceIte, Int.reduceToNat, w64_id, cast_succ]); (first | (with_reducible refine GR.drop ?_ ?_; (simp only [go_sem, and_self, and_true, true_and, implies_true, List.take_succ_cons, List.take_zero])) | refine GR.of ?_); refine ⟨?_, rfl⟩; (try with_reducible rfl)
theorem listText_call : callable Tryz.prog f_impl_ListText_c1 = true := by kernel_rfl
theorem join_len {m : Nat} {sep : UInt8} : ∀ {xs : List (List UInt8)}, (∀ x ∈ xs, x.length ≤ m) → (Lib.join xs [sep]).length ≤ xs.length * (m + 1)
  | [], _ => by rw [Lib.join_nil]; simp
  | [x], h => by rw [Lib.join_one]; have := h x (by simp); simp; omega
  | x :: y :: r, h => by
    rw [join_two sep x (by simp), List.length_append, List.length_cons]
    have h1 := h x (by simp)
    have h2 := join_len (sep := sep) (xs := y :: r) (fun z hz => h z (List.mem_cons_of_mem _ hz))
    rw [List.length_cons, Nat.succ_mul]
    omega
theorem itoa_len {n : Int} (h : n.natAbs < 10 ^ 18) : (Lib.itoa n).length ≤ 19 := by
  have h1 := body_itoa n
  have h2 := (dec_len18 n.natAbs).2 h
  unfold Lib.itoa
  split
  · rw [List.length_cons]; omega
  · rw [show n.toNat = n.natAbs by omega]; omega
theorem listText_fn (l : List Int) : PFn Tryz.prog f_impl_ListText [ilS l] (Tx (lText l)) := by
  intro H
  refine ACalls.introB s_impl_ListText (by simp) ?_; intro hB hA; unfold c_impl_ListText; simp (config := { maxSteps := 1000000 }) (disch := (first | omega | (simp only [go_sem]; try omega))) only [go_sem, Nat.reduceAdd, Nat.reduceEqDiff, Nat.reduceLeDiff, Nat.reduceMul, Nat.reduceLT, reduceIte, Int.reduceToNat, w64_id, cast_succ]
  repeat (first | (with_reducible first | refine SW.seq ?_ | refine SW.block ?_ | refine SW.rowC ?_ | refine SW.skip ?_ | refine SW.exit ?_ | intro _ | refine And.intro (by omega) ?_) | simp (config := { maxSteps := 1000000 }) (disch := (first | omega | (simp only [go_sem]; try omega))) only [go_sem, Nat.reduceAdd, Nat.reduceEqDiff, Nat.reduceLeDiff, Nat.reduceMul, Nat.reduceLT, reduceIte, Int.reduceToNat, w64_id, cast_succ])
  by_cases h100 : l.length ≤ 100
  · have d1 : decide ((100 : Int) < (l.length : Int)) = false := decide_eq_false (by omega)
    repeat (first | (with_reducible first | refine SW.seq ?_ | refine SW.block ?_ | refine SW.rowC ?_ | refine SW.skip ?_ | refine SW.exit ?_ | intro _ | refine And.intro (by omega) ?_) | simp (config := { maxSteps := 1000000 }) (disch := (first | omega | (simp only [go_sem]; try omega))) only [go_sem, Nat.reduceAdd, Nat.reduceEqDiff, Nat.reduceLeDiff, Nat.reduceMul, Nat.reduceLT, reduceIte, Int.reduceToNat, w64_id, cast_succ, d1])
    refine (conI_ok I _ (ilS l) l rfl f_impl_ListText_c1 [] listText_call (fun x => !(decide (-999999999 ≤ x) && decide (x ≤ 999999999))) (fun x hx => listText_c1_fn x _)).mono ?_
    rintro r H' ⟨rfl, rfl⟩
    cases ha : l.any fun x => !(decide (-999999999 ≤ x) && decide (x ≤ 999999999))
    · have hin : inL l = true := by
        unfold inL
        rw [decide_eq_true h100, Bool.true_and, List.all_eq_true]
        intro x hx
        rw [List.any_eq_false] at ha
        simpa using ha x hx
      have hin2 : ∀ x ∈ l, -999999999 ≤ x ∧ x ≤ 999999999 := by
        intro x hx
        unfold inL at hin
        simp only [Bool.and_eq_true, List.all_eq_true, decide_eq_true_eq] at hin
        exact hin.2 x hx
      unfold lText
      rw [if_pos hin]
      unfold ltx
      repeat (first | (with_reducible first | refine SW.seq ?_ | refine SW.block ?_ | refine SW.rowC ?_ | refine SW.skip ?_ | refine SW.exit ?_ | intro _ | refine And.intro (by omega) ?_) | simp (config := { maxSteps := 1000000 }) (disch := (first | omega | (simp only [go_sem]; try omega))) only [go_sem, Nat.reduceAdd, Nat.reduceEqDiff, Nat.reduceLeDiff, Nat.reduceMul, Nat.reduceLT, reduceIte, Int.reduceToNat, w64_id, cast_succ])
      refine SW.condF rfl ?_
      by_cases h0 : l.length = 0
      · obtain rfl := List.length_eq_zero_iff.1 h0
        have d0 : decide (((0 : Nat) : Int) = 0) = true := rfl
        repeat (first | (with_reducible first | refine SW.seq ?_ | refine SW.block ?_ | refine SW.rowC ?_ | refine SW.skip ?_ | refine SW.exit ?_ | intro _ | refine And.intro (by omega) ?_) | simp (config := { maxSteps := 1000000 }) (disch := (first | omega | (simp only [go_sem]; try omega))) only [go_sem, Nat.reduceAdd, Nat.reduceEqDiff, Nat.reduceLeDiff, Nat.reduceMul, Nat.reduceLT, reduceIte, Int.reduceToNat, w64_id, cast_succ, d0])
        refine SW.condT rfl ?_
        repeat (first | (with_reducible first | refine SW.seq ?_ | refine SW.block ?_ | refine SW.rowC ?_ | refine SW.skip ?_ | refine SW.exit ?_ | intro _ | refine And.intro (by omega) ?_) | simp (config := { maxSteps := 1000000 }) (disch := (first | omega | (simp only [go_sem]; try omega))) only [go_sem, Nat.reduceAdd, Nat.reduceEqDiff, Nat.reduceLeDiff, Nat.reduceMul, Nat.reduceLT, reduceIte, Int.reduceToNat, w64_id, cast_succ])
        refine SW.ret ?_; (try simp only [go_sem]); (first | refine FunPost.one ?_ | refine FunPost.two ?_ | refine FunPost.three ?_); (try simp (config := { maxSteps := 1000000 }) (disch := (first | omega | (simp only [go_sem]; try omega))) only [go_sem, Nat.reduceAdd, Nat.reduceEqDiff, Nat.reduceLeDiff, Nat.reduceMul, Nat.reduceLT, reduceIte, Int.reduceToNat, w64_id, cast_succ]); (first | (with_reducible refine GR.drop ?_ ?_; (simp only [go_sem, and_self, and_true, true_and, implies_true, List.take_succ_cons, List.take_zero])) | refine GR.of ?_); refine ⟨?_, rfl⟩; (try with_reducible rfl)
      · have d0 : decide ((l.length : Int) = 0) = false := decide_eq_false (by omega)
        rw [if_neg (fun h => h0 (by rw [h]; rfl))]
        repeat (first | (with_reducible first | refine SW.seq ?_ | refine SW.block ?_ | refine SW.rowC ?_ | refine SW.skip ?_ | refine SW.exit ?_ | intro _ | refine And.intro (by omega) ?_) | simp (config := { maxSteps := 1000000 }) (disch := (first | omega | (simp only [go_sem]; try omega))) only [go_sem, Nat.reduceAdd, Nat.reduceEqDiff, Nat.reduceLeDiff, Nat.reduceMul, Nat.reduceLT, reduceIte, Int.reduceToNat, w64_id, cast_succ, d0])
        refine SW.condF rfl ?_
        repeat (first | (with_reducible first | refine SW.seq ?_ | refine SW.block ?_ | refine SW.rowC ?_ | refine SW.skip ?_ | refine SW.exit ?_ | intro _ | refine And.intro (by omega) ?_) | simp (config := { maxSteps := 1000000 }) (disch := (first | omega | (simp only [go_sem]; try omega))) only [go_sem, Nat.reduceAdd, Nat.reduceEqDiff, Nat.reduceLeDiff, Nat.reduceMul, Nat.reduceLT, reduceIte, Int.reduceToNat, w64_id, cast_succ])
        refine SW.loopE (fun E0 H0 q E' H1 => ∃ (pre post : List Int) (v : AV), l = pre ++ post ∧ q = post.length ∧ E' = aput (aput E0 3 v) 18 (I pre.length) ∧ GrowF H1 H'.length 9 1 v pre.length ((pre.map Lib.itoa).map Tx) ∧ H'.length ≤ H1.length ∧ ∀ j, j < H'.length → H1[j]? = H'[j]?) l.length ⟨[], l, nilS, rfl, rfl, rfl, .inl ⟨rfl, rfl, rfl⟩, Nat.le_refl _, fun _ _ => rfl⟩ ?_
        rintro q E' H1 ⟨pre, post, v, hq, rfl, rfl, hg, hl1, hk1⟩
        have hpl : pre.length ≤ 100 := by rw [hq] at h100; simp at h100; omega
        simp (config := { maxSteps := 1000000 }) (disch := (first | omega | (simp only [go_sem]; try omega))) only [go_sem, Nat.reduceAdd, Nat.reduceEqDiff, Nat.reduceLeDiff, Nat.reduceMul, Nat.reduceLT, reduceIte, Int.reduceToNat, w64_id, cast_succ]
        repeat (first | (with_reducible first | refine SW.seq ?_ | refine SW.block ?_ | refine SW.rowC ?_ | refine SW.skip ?_ | refine SW.exit ?_ | intro _ | refine And.intro (by omega) ?_) | simp (config := { maxSteps := 1000000 }) (disch := (first | omega | (simp only [go_sem]; try omega))) only [go_sem, Nat.reduceAdd, Nat.reduceEqDiff, Nat.reduceLeDiff, Nat.reduceMul, Nat.reduceLT, reduceIte, Int.reduceToNat, w64_id, cast_succ])
        (first | refine SW.condD rfl (fun h2 => ?_) (fun h2 => ?_) | refine SW.condN rfl (fun h2 => ?_) (fun h2 => ?_) | refine SW.condNB rfl (fun h2 => ?_) (fun h2 => ?_) | refine SW.condB rfl (fun h2 => ?_) (fun h2 => ?_))
        · obtain ⟨x, post, rfl, hgx, -⟩ := consOf (d := 0) hq (by omega)
          have hx := hin2 x (by rw [hq]; simp)
          have hd := decimal_fn x (by omega) (by omega)
          repeat (first | (with_reducible first | refine SW.seq ?_ | refine SW.block ?_ | refine SW.rowC ?_ | refine SW.skip ?_ | refine SW.exit ?_ | refine PFn.use (hd) ?_ | refine PFn.useq (hd) ?_ | intro _ | refine And.intro (by omega) ?_) | simp (config := { maxSteps := 1000000 }) (disch := (first | omega | (simp only [go_sem]; try omega))) only [go_sem, Nat.reduceAdd, Nat.reduceEqDiff, Nat.reduceLeDiff, Nat.reduceMul, Nat.reduceLT, reduceIte, Int.reduceToNat, w64_id, cast_succ, hgx])
          refine GrowF.appX hg hl1 rfl (by simp; rfl) (by omega) (by omega) ?_
          intro v3 H3 d1 d2 d3
          repeat (first | (with_reducible first | refine SW.seq ?_ | refine SW.block ?_ | refine SW.rowC ?_ | refine SW.skip ?_ | refine SW.exit ?_ | intro _ | refine And.intro (by omega) ?_) | simp (config := { maxSteps := 1000000 }) (disch := (first | omega | (simp only [go_sem]; try omega))) only [go_sem, Nat.reduceAdd, Nat.reduceEqDiff, Nat.reduceLeDiff, Nat.reduceMul, Nat.reduceLT, reduceIte, Int.reduceToNat, w64_id, cast_succ, d1.one.1, d1.one.2])
          refine SLoop.next post.length (by simp) ⟨pre ++ [x], post, v3, by rw [hq]; simp, rfl, ?_, ?_, by omega, fun j hj => (d3 j hj).trans (hk1 j hj)⟩
          · simp only [List.length_append, List.length_singleton]; rfl
          · rw [List.map_append, List.map_append, List.length_append]; exact d1
        · obtain ⟨rfl, rfl⟩ := nilOf hq (by omega)
          have hjl : (Lib.join (pre.map Lib.itoa) [44]).length ≤ 140737488355328 := by
            have := join_len (m := 19) (sep := 44) (xs := pre.map Lib.itoa) (fun p hp => by obtain ⟨n, hn, rfl⟩ := List.mem_map.1 hp; have := hin2 n hn; exact itoa_len (by omega))
            rw [List.length_map] at this
            omega
          have hj := (join_fn (pre.map Lib.itoa) [44] (by simp; omega) hjl).lend (H := H1) (.cons (hg.frozT (Nat.zero_le _)) (.cons (.old _ (.lit _)) .nil))
          repeat (first | (with_reducible first | refine SW.seq ?_ | refine SW.block ?_ | refine SW.rowC ?_ | refine SW.skip ?_ | refine SW.exit ?_ | intro _ | refine And.intro (by omega) ?_) | simp (config := { maxSteps := 1000000 }) (disch := (first | omega | (simp only [go_sem]; try omega))) only [go_sem, Nat.reduceAdd, Nat.reduceEqDiff, Nat.reduceLeDiff, Nat.reduceMul, Nat.reduceLT, reduceIte, Int.reduceToNat, w64_id, cast_succ])
          refine ACalls.fn hj ?_
          repeat (first | (with_reducible first | refine SW.seq ?_ | refine SW.block ?_ | refine SW.rowC ?_ | refine SW.skip ?_ | refine SW.exit ?_ | intro _ | refine And.intro (by omega) ?_) | simp (config := { maxSteps := 1000000 }) (disch := (first | omega | (simp only [go_sem]; try omega))) only [go_sem, Nat.reduceAdd, Nat.reduceEqDiff, Nat.reduceLeDiff, Nat.reduceMul, Nat.reduceLT, reduceIte, Int.reduceToNat, w64_id, cast_succ])
          refine SW.ret ⟨_, rfl, ?_⟩
          exact GR.frozP (prefix_of hl1 hk1) (.old _ (.lit _)) ⟨rfl, rfl⟩
    · have hin : inL l = false := by
        unfold inL
        rw [decide_eq_true h100, Bool.true_and]
        rw [List.any_eq_not_all_not, Bool.not_eq_true'] at ha
        simpa using ha
      unfold lText
      rw [hin, if_neg (by simp)]
      repeat (first | (with_reducible first | refine SW.seq ?_ | refine SW.block ?_ | refine SW.rowC ?_ | refine SW.skip ?_ | refine SW.exit ?_ | intro _ | refine And.intro (by omega) ?_) | simp (config := { maxSteps := 1000000 }) (disch := (first | omega | (simp only [go_sem]; try omega))) only [go_sem, Nat.reduceAdd, Nat.reduceEqDiff, Nat.reduceLeDiff, Nat.reduceMul, Nat.reduceLT, reduceIte, Int.reduceToNat, w64_id, cast_succ])
      refine SW.condT rfl ?_
      repeat (first | (with_reducible first | refine SW.seq ?_ | refine SW.block ?_ | refine SW.rowC ?_ | refine SW.skip ?_ | refine SW.exit ?_ | intro _ | refine And.intro (by omega) ?_) | simp (config := { maxSteps := 1000000 }) (disch := (first | omega | (simp only [go_sem]; try omega))) only [go_sem, Nat.reduceAdd, Nat.reduceEqDiff, Nat.reduceLeDiff, Nat.reduceMul, Nat.reduceLT, reduceIte, Int.reduceToNat, w64_id, cast_succ])
      refine SW.ret ?_; (try simp only [go_sem]); (first | refine FunPost.one ?_ | refine FunPost.two ?_ | refine FunPost.three ?_); (try simp (config := { maxSteps := 1000000 }) (disch := (first | omega | (simp only [go_sem]; try omega))) only [go_sem, Nat.reduceAdd, Nat.reduceEqDiff, Nat.reduceLeDiff, Nat.reduceMul, Nat.reduceLT, reduceIte, Int.reduceToNat, w64_id, cast_succ]); (first | (with_reducible refine GR.drop ?_ ?_; (simp only [go_sem, and_self, and_true, true_and, implies_true, List.take_succ_cons, List.take_zero])) | refine GR.of ?_); refine ⟨?_, rfl⟩; (try with_reducible rfl)
  · have d1 : decide ((100 : Int) < (l.length : Int)) = true := decide_eq_true (by omega)
    have hin : inL l = false := by unfold inL; rw [decide_eq_false h100]; rfl
    unfold lText
    rw [hin, if_neg (by simp)]
    repeat (first | (with_reducible first | refine SW.seq ?_ | refine SW.block ?_ | refine SW.rowC ?_ | refine SW.skip ?_ | refine SW.exit ?_ | intro _ | refine And.intro (by omega) ?_) | simp (config := { maxSteps := 1000000 }) (disch := (first | omega | (simp only [go_sem]; try omega))) only [go_sem, Nat.reduceAdd, Nat.reduceEqDiff, Nat.reduceLeDiff, Nat.reduceMul, Nat.reduceLT, reduceIte, Int.reduceToNat, w64_id, cast_succ, d1])
    refine SW.condT rfl ?_
    repeat (first | (with_reducible first | refine SW.seq ?_ | refine SW.block ?_ | refine SW.rowC ?_ | refine SW.skip ?_ | refine SW.exit ?_ | intro _ | refine And.intro (by omega) ?_) | simp (config := { maxSteps := 1000000 }) (disch := (first | omega | (simp only [go_sem]; try omega))) only [go_sem, Nat.reduceAdd, Nat.reduceEqDiff, Nat.reduceLeDiff, Nat.reduceMul, Nat.reduceLT, reduceIte, Int.reduceToNat, w64_id, cast_succ])
    refine SW.ret ?_; (try simp only [go_sem]); (first | refine FunPost.one ?_ | refine FunPost.two ?_ | refine FunPost.three ?_); (try simp (config := { maxSteps := 1000000 }) (disch := (first | omega | (simp only [go_sem]; try omega))) only [go_sem, Nat.reduceAdd, Nat.reduceEqDiff, Nat.reduceLeDiff, Nat.reduceMul, Nat.reduceLT, reduceIte, Int.reduceToNat, w64_id, cast_succ]); (first | (with_reducible refine GR.drop ?_ ?_; (simp only [go_sem, and_self, and_true, true_and, implies_true, List.take_succ_cons, List.take_zero])) | refine GR.of ?_); refine ⟨?_, rfl⟩; (try with_reducible rfl)
end Go.Proofs.YtdgcgckehihboaaGreatDoor
namespace Go.Proofs.YtdgcgckehihboaaGreatDoor
variable [Go.Av.DoorC] [Go.Proofs.YtdgcgckehihboaaGreatDoor.DoorT]
open Go.Av
abbrev f_impl_GraphText : Nat := 7
def c_impl_GraphText : SC :=
 .seq (.reg [
     ⟨(some 1), .box 27 (.tmp 0), none⟩,
     ⟨(some 2), .mv (.const (.string ByteArray.empty)), none⟩] [1])
 (.seq (.seq (.reg [
     ⟨(some 6), .load 2 true (.tmp 1), none⟩,
     ⟨(some 7), .call 12 [(.tmp 6)], none⟩,
     ⟨(some 8), .un .not (.tmp 7), none⟩] [1, 8])
 (.cond (.tmp 8)
  (.seq (.reg [
      ⟨(some 2), .mv (.const (.string ByteArray.empty)), none⟩] [2])
  (.ret))
  (.skip)))
 (.seq (.reg [
     ⟨(some 3), .mv (.const (.slice none 0 0)), none⟩] [1, 3])
 (.seq (.seq (.reg [
     ⟨(some 9), .faddr 1 (.tmp 1), none⟩,
     ⟨(some 10), .load 1 false (.tmp 9), none⟩,
     ⟨(some 11), .len (.tmp 10), none⟩,
     ⟨(some 12), .mv (.const (.int .i64 0)), none⟩] [1, 3, 10, 11, 12])
 (.block 0 (.loop [1, 3, 10, 11, 12]
   (.seq (.reg [
       ⟨(some 13), .bin .lss (.tmp 12) (.tmp 11), none⟩] [1, 3, 10, 11, 12, 13])
   (.seq (.cond (.tmp 13)
    (.skip)
    (.exit 0))
   (.seq (.block 1 (.seq (.reg [
        ⟨(some 14), .iaddr 2 (.tmp 10) (.tmp 12), none⟩,
        ⟨(some 15), .load 2 true (.tmp 14), none⟩,
        ⟨(some 5), .alloc 49 [(.int .i64 0), (.int .i64 0)], none⟩,
        ⟨none, .store 2 (.tmp 5) (.tmp 15), none⟩] [1, 3, 5, 10, 11, 12])
    (.reg [
        ⟨(some 16), .mv (.tmp 3), none⟩,
        ⟨(some 17), .faddr 0 (.tmp 5), none⟩,
        ⟨(some 18), .load 1 false (.tmp 17), none⟩,
        ⟨(some 19), .qcall 20 [(.tmp 18)], none⟩,
        ⟨(some 20), .sop .add [(.tmp 19), (.const (.string ⟨#[45]⟩))], none⟩,
        ⟨(some 21), .faddr 1 (.tmp 5), none⟩,
        ⟨(some 22), .load 1 false (.tmp 21), none⟩,
        ⟨(some 23), .qcall 20 [(.tmp 22)], none⟩,
        ⟨(some 24), .sop .add [(.tmp 20), (.tmp 23)], none⟩,
        ⟨(some 25), .bslice 9 1 1 [(.string ByteArray.empty)] [(0, (.tmp 24))], none⟩,
        ⟨(some 26), .app 9 1 16 (.tmp 16) (.tmp 25), none⟩,
        ⟨(some 3), .mv (.tmp 26), none⟩] [1, 3, 10, 11, 12])))
   (.reg [
       ⟨(some 27), .bin .add (.tmp 12) (.const (.int .i64 1)), none⟩,
       ⟨(some 12), .mv (.tmp 27), none⟩] [1, 3, 10, 11, 12])))))))
 (.seq (.reg [
     ⟨(some 28), .faddr 0 (.tmp 1), none⟩,
     ⟨(some 29), .load 1 false (.tmp 28), none⟩,
     ⟨(some 30), .call 21 [(.tmp 29)], none⟩,
     ⟨(some 31), .sop .add [(.tmp 30), (.const (.string ⟨#[59]⟩))], none⟩,
     ⟨(some 32), .mv (.tmp 3), none⟩,
     ⟨(some 33), .call 22 [(.tmp 32), (.const (.string ⟨#[44]⟩))], none⟩,
     ⟨(some 34), .sop .add [(.tmp 31), (.tmp 33)], none⟩,
     ⟨(some 2), .mv (.tmp 34), none⟩] [2])
 (.ret)))))
theorem s_impl_GraphText : stripF Tryz.prog 7 [[1], [1, 8], [2], [1, 3], [1, 3, 10, 11, 12], [1, 3, 10, 11, 12], [1, 3, 10, 11, 12, 13], [1, 3, 5, 10, 11, 12], [1, 3, 10, 11, 12], [1, 3, 10, 11, 12], [2]] = some (c_impl_GraphText, [.tmp 2], 35) := by kernel_rfl
abbrev f_impl_ReadList : Nat := 17
def c_impl_ReadList : SC :=
 .seq (.reg [
     ⟨(some 2), .mv (.const (.slice none 0 0)), none⟩,
     ⟨(some 3), .mv (.const (.bool false)), none⟩] [0])
 (.seq (.seq (.reg [
     ⟨(some 9), .mv (.tmp 0), none⟩,
     ⟨(some 10), .sop (.eql false) [(.tmp 9), (.const (.string ⟨#[45]⟩))], none⟩] [0, 10])
 (.cond (.tmp 10)
  (.seq (.reg [
      ⟨(some 2), .mv (.const (.slice none 0 0)), none⟩,
      ⟨(some 3), .mv (.const (.bool true)), none⟩] [2, 3])
  (.ret))
  (.skip)))
 (.seq (.reg [
     ⟨(some 4), .mv (.const (.slice none 0 0)), none⟩] [0, 4])
 (.seq (.seq (.reg [
     ⟨(some 11), .mv (.tmp 0), none⟩,
     ⟨(some 12), .call 18 [(.tmp 11), (.const (.string ⟨#[44]⟩))], none⟩,
     ⟨(some 13), .len (.tmp 12), none⟩,
     ⟨(some 14), .mv (.const (.int .i64 0)), none⟩] [0, 4, 12, 13, 14])
 (.block 0 (.loop [0, 4, 12, 13, 14]
   (.seq (.reg [
       ⟨(some 15), .bin .lss (.tmp 14) (.tmp 13), none⟩] [0, 4, 12, 13, 14, 15])
   (.seq (.cond (.tmp 15)
    (.skip)
    (.exit 0))
   (.seq (.block 1 (.seq (.reg [
        ⟨(some 16), .iaddr 1 (.tmp 12) (.tmp 14), none⟩,
        ⟨(some 17), .load 1 false (.tmp 16), none⟩,
        ⟨(some 6), .mv (.tmp 17), none⟩] [0, 4, 6, 12, 13, 14])
    (.seq (.reg [
        ⟨(some 19), .mv (.tmp 6), none⟩,
        ⟨(some 20), .call 19 [(.tmp 19)], none⟩,
        ⟨(some 18), .mv (.tmp 20), none⟩,
        ⟨(some 21), .ext (.tmp 18) 0, none⟩,
        ⟨(some 22), .ext (.tmp 18) 1, none⟩,
        ⟨(some 7), .mv (.tmp 21), none⟩,
        ⟨(some 8), .mv (.tmp 22), none⟩] [0, 4, 7, 12, 13, 14])
    (.reg [
        ⟨(some 23), .mv (.tmp 4), none⟩,
        ⟨(some 24), .mv (.tmp 7), none⟩,
        ⟨(some 25), .bslice 2 1 1 [(.int .i64 0)] [(0, (.tmp 24))], none⟩,
        ⟨(some 26), .app 2 1 8 (.tmp 23) (.tmp 25), none⟩,
        ⟨(some 4), .mv (.tmp 26), none⟩] [0, 4, 12, 13, 14]))))
   (.reg [
       ⟨(some 27), .bin .add (.tmp 14) (.const (.int .i64 1)), none⟩,
       ⟨(some 14), .mv (.tmp 27), none⟩] [0, 4, 12, 13, 14])))))))
 (.seq (.seq (.reg [
     ⟨(some 28), .mv (.tmp 4), none⟩,
     ⟨(some 29), .call 21 [(.tmp 28)], none⟩,
     ⟨(some 30), .mv (.tmp 0), none⟩,
     ⟨(some 31), .sop (.eql true) [(.tmp 29), (.tmp 30)], none⟩] [4, 31])
 (.cond (.tmp 31)
  (.seq (.reg [
      ⟨(some 2), .mv (.const (.slice none 0 0)), none⟩,
      ⟨(some 3), .mv (.const (.bool false)), none⟩] [2, 3])
  (.ret))
  (.skip)))
 (.seq (.reg [
     ⟨(some 32), .mv (.tmp 4), none⟩,
     ⟨(some 2), .mv (.tmp 32), none⟩,
     ⟨(some 3), .mv (.const (.bool true)), none⟩] [2, 3])
 (.ret))))))
theorem s_impl_ReadList : stripF Tryz.prog 17 [[0], [0, 10], [2, 3], [0, 4], [0, 4, 12, 13, 14], [0, 4, 12, 13, 14], [0, 4, 12, 13, 14, 15], [0, 4, 6, 12, 13, 14], [0, 4, 7, 12, 13, 14], [0, 4, 12, 13, 14], [0, 4, 12, 13, 14], [4, 31], [2, 3], [2, 3]] = some (c_impl_ReadList, [.tmp 2, .tmp 3], 33) := by kernel_rfl
def LsR (H : List Blk) (l : List Int) (r : AV) (H' : List Blk) : Prop := ∃ v b, r = .tup [v, Bv b] ∧ GrowF H' H.length 2 1 v l.length (l.map I) ∧ H.length ≤ H'.length ∧ ∀ j, j < H.length → H'[j]? = H[j]?
theorem implReadList_ok (H : List Blk) (s : List UInt8) (hs : s.length ≤ 1100000) : ACalls Tryz.prog f_impl_ReadList [Tx s] H (LsR H (rdP s)) := by
  unfold rdP
  have hsp := split_fn s [44] (by omega) (by simp)
  rw [split_is] at hsp
  have hnum := spl_num 44 s
  have hmem : ∀ p ∈ spl 44 s, p.length ≤ 2000000 := fun p hp => Nat.le_trans (spl_len hp) (by omega)
  generalize spl 44 s = ps at *
  have hbe := fun k => Bel_ilT k ps
  refine ACalls.introB s_impl_ReadList (by simp) ?_; intro hB hA; unfold c_impl_ReadList; simp (config := { maxSteps := 1000000 }) (disch := (first | omega | (simp only [go_sem]; try omega))) only [go_sem, Nat.reduceAdd, Nat.reduceEqDiff, Nat.reduceLeDiff, Nat.reduceMul, Nat.reduceLT, reduceIte, Int.reduceToNat, w64_id, cast_succ]
  repeat (first | (with_reducible first | refine SW.seq ?_ | refine SW.block ?_ | refine SW.rowC ?_ | refine SW.skip ?_ | refine SW.exit ?_ | intro _ | refine And.intro (by omega) ?_) | simp (config := { maxSteps := 1000000 }) (disch := (first | omega | (simp only [go_sem]; try omega))) only [go_sem, Nat.reduceAdd, Nat.reduceEqDiff, Nat.reduceLeDiff, Nat.reduceMul, Nat.reduceLT, reduceIte, Int.reduceToNat, w64_id, cast_succ])
  by_cases h45 : s = [45]
  · have d1 : decide (s = [45]) = true := decide_eq_true h45
    rw [if_pos h45]
    repeat (first | (with_reducible first | refine SW.seq ?_ | refine SW.block ?_ | refine SW.rowC ?_ | refine SW.skip ?_ | refine SW.exit ?_ | intro _ | refine And.intro (by omega) ?_) | simp (config := { maxSteps := 1000000 }) (disch := (first | omega | (simp only [go_sem]; try omega))) only [go_sem, Nat.reduceAdd, Nat.reduceEqDiff, Nat.reduceLeDiff, Nat.reduceMul, Nat.reduceLT, reduceIte, Int.reduceToNat, w64_id, cast_succ, d1])
    refine SW.condT rfl ?_
    repeat (first | (with_reducible first | refine SW.seq ?_ | refine SW.block ?_ | refine SW.rowC ?_ | refine SW.skip ?_ | refine SW.exit ?_ | intro _ | refine And.intro (by omega) ?_) | simp (config := { maxSteps := 1000000 }) (disch := (first | omega | (simp only [go_sem]; try omega))) only [go_sem, Nat.reduceAdd, Nat.reduceEqDiff, Nat.reduceLeDiff, Nat.reduceMul, Nat.reduceLT, reduceIte, Int.reduceToNat, w64_id, cast_succ])
    refine SW.ret ⟨_, rfl, ?_⟩
    exact GR.of ⟨_, _, rfl, .inl ⟨rfl, rfl, rfl⟩, Nat.le_refl _, fun _ _ => rfl⟩
  · rw [if_neg h45]
    have d1 : decide (s = [45]) = false := decide_eq_false h45
    repeat (first | (with_reducible first | refine SW.seq ?_ | refine SW.block ?_ | refine SW.rowC ?_ | refine SW.skip ?_ | refine SW.exit ?_ | intro _ | refine And.intro (by omega) ?_) | simp (config := { maxSteps := 1000000 }) (disch := (first | omega | (simp only [go_sem]; try omega))) only [go_sem, Nat.reduceAdd, Nat.reduceEqDiff, Nat.reduceLeDiff, Nat.reduceMul, Nat.reduceLT, reduceIte, Int.reduceToNat, w64_id, cast_succ, d1])
    refine SW.condF rfl ?_
    repeat (first | (with_reducible first | refine SW.seq ?_ | refine SW.block ?_ | refine SW.rowC ?_ | refine SW.skip ?_ | refine SW.exit ?_ | refine PFn.use (hsp) ?_ | refine PFn.useq (hsp) ?_ | intro _ | refine And.intro (by omega) ?_) | simp (config := { maxSteps := 1000000 }) (disch := (first | omega | (simp only [go_sem]; try omega))) only [go_sem, Nat.reduceAdd, Nat.reduceEqDiff, Nat.reduceLeDiff, Nat.reduceMul, Nat.reduceLT, reduceIte, Int.reduceToNat, w64_id, cast_succ])
    refine SW.loopE (fun E0 H0 q E' H1 => ∃ (pre post : List (List UInt8)) (v : AV), ps = pre ++ post ∧ q = post.length ∧ E' = aput (aput E0 4 v) 14 (I pre.length) ∧ GrowF H1 H.length 2 1 v pre.length ((pre.map fun w => (rdD w).getD 0).map I) ∧ H.length ≤ H1.length ∧ ∀ j, j < H.length → H1[j]? = H[j]?) ps.length ⟨[], ps, nilS, rfl, rfl, rfl, .inl ⟨rfl, rfl, rfl⟩, Nat.le_refl _, fun _ _ => rfl⟩ ?_
    rintro q E' H1 ⟨pre, post, v, hq, rfl, rfl, hg, hl1, hk1⟩
    have hpl : pre.length ≤ 1100001 := by have := congrArg List.length hq; simp at this; omega
    simp (config := { maxSteps := 1000000 }) (disch := (first | omega | (simp only [go_sem]; try omega))) only [go_sem, Nat.reduceAdd, Nat.reduceEqDiff, Nat.reduceLeDiff, Nat.reduceMul, Nat.reduceLT, reduceIte, Int.reduceToNat, w64_id, cast_succ]
    repeat (first | (with_reducible first | refine SW.seq ?_ | refine SW.block ?_ | refine SW.rowC ?_ | refine SW.skip ?_ | refine SW.exit ?_ | intro _ | refine And.intro (by omega) ?_) | simp (config := { maxSteps := 1000000 }) (disch := (first | omega | (simp only [go_sem]; try omega))) only [go_sem, Nat.reduceAdd, Nat.reduceEqDiff, Nat.reduceLeDiff, Nat.reduceMul, Nat.reduceLT, reduceIte, Int.reduceToNat, w64_id, cast_succ])
    (first | refine SW.condD rfl (fun h2 => ?_) (fun h2 => ?_) | refine SW.condN rfl (fun h2 => ?_) (fun h2 => ?_) | refine SW.condNB rfl (fun h2 => ?_) (fun h2 => ?_) | refine SW.condB rfl (fun h2 => ?_) (fun h2 => ?_))
    · obtain ⟨x, post, rfl, hgx, -⟩ := consOf (d := []) hq (by omega)
      have hpl2 : pre.length + 1 ≤ 1100001 := by have := congrArg List.length hq; simp at this; omega
      have hd := readDecimal_fn x (hmem x (by rw [hq]; simp))
      repeat (first | (with_reducible first | refine SW.seq ?_ | refine SW.block ?_ | refine SW.rowC ?_ | refine SW.skip ?_ | refine SW.exit ?_ | refine PFn.use (hd) ?_ | refine PFn.useq (hd) ?_ | intro _ | refine And.intro (by omega) ?_) | simp (config := { maxSteps := 1000000 }) (disch := (first | omega | (simp only [go_sem]; try omega))) only [go_sem, Nat.reduceAdd, Nat.reduceEqDiff, Nat.reduceLeDiff, Nat.reduceMul, Nat.reduceLT, reduceIte, Int.reduceToNat, w64_id, cast_succ, hgx])
      refine GrowF.appX hg hl1 rfl (by simp; rfl) (by omega) (by omega) ?_
      intro v3 H3 d1 d2 d3
      repeat (first | (with_reducible first | refine SW.seq ?_ | refine SW.block ?_ | refine SW.rowC ?_ | refine SW.skip ?_ | refine SW.exit ?_ | intro _ | refine And.intro (by omega) ?_) | simp (config := { maxSteps := 1000000 }) (disch := (first | omega | (simp only [go_sem]; try omega))) only [go_sem, Nat.reduceAdd, Nat.reduceEqDiff, Nat.reduceLeDiff, Nat.reduceMul, Nat.reduceLT, reduceIte, Int.reduceToNat, w64_id, cast_succ, d1.one.1, d1.one.2])
      refine SLoop.next post.length (by simp) ⟨pre ++ [x], post, v3, by rw [hq]; simp, rfl, ?_, ?_, by omega, fun j hj => (d3 j hj).trans (hk1 j hj)⟩
      · simp only [List.length_append, List.length_singleton]; rfl
      · rw [List.map_append, List.map_append, List.length_append]; exact d1
    · obtain ⟨rfl, rfl⟩ := nilOf hq (by omega)
      have hlen : pre.length = (pre.map fun w => (rdD w).getD 0).length := by simp
      rw [hlen] at hg
      generalize (pre.map fun w => (rdD w).getD 0) = l at *
      have hlt := (listText_fn l).lend (H := H1) (.cons (hg.frozI (Nat.zero_le _)) .nil)
      repeat (first | (with_reducible first | refine SW.seq ?_ | refine SW.block ?_ | refine SW.rowC ?_ | refine SW.skip ?_ | refine SW.exit ?_ | intro _ | refine And.intro (by omega) ?_) | simp (config := { maxSteps := 1000000 }) (disch := (first | omega | (simp only [go_sem]; try omega))) only [go_sem, Nat.reduceAdd, Nat.reduceEqDiff, Nat.reduceLeDiff, Nat.reduceMul, Nat.reduceLT, reduceIte, Int.reduceToNat, w64_id, cast_succ])
      refine ACalls.fn hlt ?_
      by_cases hls : lText l = s
      · have d5 : decide (lText l = s) = true := decide_eq_true hls
        rw [if_pos hls]
        repeat (first | (with_reducible first | refine SW.seq ?_ | refine SW.block ?_ | refine SW.rowC ?_ | refine SW.skip ?_ | refine SW.exit ?_ | intro _ | refine And.intro (by omega) ?_) | simp (config := { maxSteps := 1000000 }) (disch := (first | omega | (simp only [go_sem]; try omega))) only [go_sem, Nat.reduceAdd, Nat.reduceEqDiff, Nat.reduceLeDiff, Nat.reduceMul, Nat.reduceLT, reduceIte, Int.reduceToNat, w64_id, cast_succ, d5, Bool.not_true])
        refine SW.condF rfl ?_
        repeat (first | (with_reducible first | refine SW.seq ?_ | refine SW.block ?_ | refine SW.rowC ?_ | refine SW.skip ?_ | refine SW.exit ?_ | intro _ | refine And.intro (by omega) ?_) | simp (config := { maxSteps := 1000000 }) (disch := (first | omega | (simp only [go_sem]; try omega))) only [go_sem, Nat.reduceAdd, Nat.reduceEqDiff, Nat.reduceLeDiff, Nat.reduceMul, Nat.reduceLT, reduceIte, Int.reduceToNat, w64_id, cast_succ])
        refine SW.ret ⟨_, rfl, ?_⟩
        exact GR.of ⟨_, _, rfl, hg, hl1, hk1⟩
      · have d5 : decide (lText l = s) = false := decide_eq_false hls
        rw [if_neg hls]
        repeat (first | (with_reducible first | refine SW.seq ?_ | refine SW.block ?_ | refine SW.rowC ?_ | refine SW.skip ?_ | refine SW.exit ?_ | intro _ | refine And.intro (by omega) ?_) | simp (config := { maxSteps := 1000000 }) (disch := (first | omega | (simp only [go_sem]; try omega))) only [go_sem, Nat.reduceAdd, Nat.reduceEqDiff, Nat.reduceLeDiff, Nat.reduceMul, Nat.reduceLT, reduceIte, Int.reduceToNat, w64_id, cast_succ, d5, Bool.not_false])
        refine SW.condT rfl ?_
        repeat (first | (with_reducible first | refine SW.seq ?_ | refine SW.block ?_ | refine SW.rowC ?_ | refine SW.skip ?_ | refine SW.exit ?_ | intro _ | refine And.intro (by omega) ?_) | simp (config := { maxSteps := 1000000 }) (disch := (first | omega | (simp only [go_sem]; try omega))) only [go_sem, Nat.reduceAdd, Nat.reduceEqDiff, Nat.reduceLeDiff, Nat.reduceMul, Nat.reduceLT, reduceIte, Int.reduceToNat, w64_id, cast_succ])
        refine SW.ret ⟨_, rfl, ?_⟩
        exact GR.of ⟨_, _, rfl, .inl ⟨rfl, rfl, rfl⟩, hl1, hk1⟩
theorem etx_len {e : Int × Int} (h1 : 0 ≤ e.1 ∧ e.1 < 64) (h2 : 0 ≤ e.2 ∧ e.2 < 64) : (etx e).length ≤ 40 := by
  have a1 := itoa_len (n := e.1) (by omega)
  have a2 := itoa_len (n := e.2) (by omega)
  unfold etx
  rw [List.length_append, List.length_cons]; omega
theorem graphText_fn (cols : List Int) (es : List (Int × Int)) : PFn Tryz.prog f_impl_GraphText [.agg [ilS cols, ilE es]] (Tx (if grB cols es = true then gtx cols es else [])) := by
  have hv := ValidGraphI_fn cols es
  intro H
  refine ACalls.introB s_impl_GraphText (by simp) ?_; intro hB hA; unfold c_impl_GraphText; simp (config := { maxSteps := 1000000 }) (disch := (first | omega | (simp only [go_sem]; try omega))) only [go_sem, Nat.reduceAdd, Nat.reduceEqDiff, Nat.reduceLeDiff, Nat.reduceMul, Nat.reduceLT, reduceIte, Int.reduceToNat, w64_id, cast_succ]
  repeat (first | (with_reducible first | refine SW.seq ?_ | refine SW.block ?_ | refine SW.rowC ?_ | refine SW.skip ?_ | refine SW.exit ?_ | refine PFn.use (hv) ?_ | refine PFn.useq (hv) ?_ | intro _ | refine And.intro (by omega) ?_) | simp (config := { maxSteps := 1000000 }) (disch := (first | omega | (simp only [go_sem]; try omega))) only [go_sem, Nat.reduceAdd, Nat.reduceEqDiff, Nat.reduceLeDiff, Nat.reduceMul, Nat.reduceLT, reduceIte, Int.reduceToNat, w64_id, cast_succ])
  cases hgb : grB cols es
  · rw [if_neg (by simp)]
    refine SW.condT rfl ?_
    repeat (first | (with_reducible first | refine SW.seq ?_ | refine SW.block ?_ | refine SW.rowC ?_ | refine SW.skip ?_ | refine SW.exit ?_ | intro _ | refine And.intro (by omega) ?_) | simp (config := { maxSteps := 1000000 }) (disch := (first | omega | (simp only [go_sem]; try omega))) only [go_sem, Nat.reduceAdd, Nat.reduceEqDiff, Nat.reduceLeDiff, Nat.reduceMul, Nat.reduceLT, reduceIte, Int.reduceToNat, w64_id, cast_succ])
    refine SW.ret ?_; (try simp only [go_sem]); (first | refine FunPost.one ?_ | refine FunPost.two ?_ | refine FunPost.three ?_); (try simp (config := { maxSteps := 1000000 }) (disch := (first | omega | (simp only [go_sem]; try omega))) only [go_sem, Nat.reduceAdd, Nat.reduceEqDiff, Nat.reduceLeDiff, Nat.reduceMul, Nat.reduceLT, reduceIte, Int.reduceToNat, w64_id, cast_succ]); (first | (with_reducible refine GR.drop ?_ ?_; (simp only [go_sem, and_self, and_true, true_and, implies_true, List.take_succ_cons, List.take_zero])) | refine GR.of ?_); refine ⟨?_, rfl⟩; (try with_reducible rfl)
  · rw [if_pos rfl]
    obtain ⟨b1, b2, b3, b4⟩ := grB_facts hgb
    have hlt := listText_fn cols
    have hlt2 : lText cols = ltx cols := by unfold lText; rw [if_pos (inL_of b1 b2)]
    rw [hlt2] at hlt
    have hll : (ltx cols).length ≤ 5000 := by
      unfold ltx
      split
      · simp
      · have := join_len (m := 19) (sep := 44) (xs := cols.map Lib.itoa) (fun p hp => by obtain ⟨n, hn, rfl⟩ := List.mem_map.1 hp; have := b2 n hn; exact itoa_len (by omega))
        rw [List.length_map] at this
        omega
    refine SW.condF rfl ?_
    repeat (first | (with_reducible first | refine SW.seq ?_ | refine SW.block ?_ | refine SW.rowC ?_ | refine SW.skip ?_ | refine SW.exit ?_ | intro _ | refine And.intro (by omega) ?_) | simp (config := { maxSteps := 1000000 }) (disch := (first | omega | (simp only [go_sem]; try omega))) only [go_sem, Nat.reduceAdd, Nat.reduceEqDiff, Nat.reduceLeDiff, Nat.reduceMul, Nat.reduceLT, reduceIte, Int.reduceToNat, w64_id, cast_succ])
    refine SW.loopE (fun E0 H0 q E' H1 => ∃ (pre post : List (Int × Int)) (v : AV), es = pre ++ post ∧ q = post.length ∧ E' = aput (aput E0 3 v) 12 (I pre.length) ∧ H1[H.length]? = some ⟨0, tyGr, 1, [ilS cols, ilE es]⟩ ∧ GrowF H1 (H.length + 1) 9 1 v pre.length ((pre.map etx).map Tx) ∧ H.length + 1 ≤ H1.length ∧ ∀ j, j < H.length → H1[j]? = H[j]?) es.length ⟨[], es, nilS, rfl, rfl, rfl, by simp, .inl ⟨rfl, rfl, rfl⟩, by simp, fun j hj => List.getElem?_append_left hj⟩ ?_
    rintro q E' H1 ⟨pre, post, v, hq, rfl, rfl, hbx, hg, hl1, hk1⟩
    have hpl : pre.length ≤ 512 := by rw [hq] at b3; simp at b3; omega
    simp (config := { maxSteps := 1000000 }) (disch := (first | omega | (simp only [go_sem]; try omega))) only [go_sem, Nat.reduceAdd, Nat.reduceEqDiff, Nat.reduceLeDiff, Nat.reduceMul, Nat.reduceLT, reduceIte, Int.reduceToNat, w64_id, cast_succ]
    repeat (first | (with_reducible first | refine SW.seq ?_ | refine SW.block ?_ | refine SW.rowC ?_ | refine SW.skip ?_ | refine SW.exit ?_ | intro _ | refine And.intro (by omega) ?_) | simp (config := { maxSteps := 1000000 }) (disch := (first | omega | (simp only [go_sem]; try omega))) only [go_sem, Nat.reduceAdd, Nat.reduceEqDiff, Nat.reduceLeDiff, Nat.reduceMul, Nat.reduceLT, reduceIte, Int.reduceToNat, w64_id, cast_succ])
    (first | refine SW.condD rfl (fun h2 => ?_) (fun h2 => ?_) | refine SW.condN rfl (fun h2 => ?_) (fun h2 => ?_) | refine SW.condNB rfl (fun h2 => ?_) (fun h2 => ?_) | refine SW.condB rfl (fun h2 => ?_) (fun h2 => ?_))
    · obtain ⟨x, post, rfl, hgx, -⟩ := consOf (d := (0, 0)) hq (by omega)
      have hx := b4 x (by rw [hq]; simp)
      have l1 : ∀ H, acells H 2 (.el (ilE es) (pre.length * 2)) = some [I x.1, I x.2] := fun H => by
        have := (rd_ilE H es).ld (j := pre.length) (by omega)
        rwa [hgx] at this
      have hd1 := decimal_fn x.1 (by omega) (by omega)
      have hd2 := decimal_fn x.2 (by omega) (by omega)
      have hi1 := itoa_len (n := x.1) (by omega)
      have hi2 := itoa_len (n := x.2) (by omega)
      have hs1 : sopV .add [Tx (Lib.itoa x.1), Tx [45]] = some (Tx (Lib.itoa x.1 ++ [45])) := sopV_add _ _ (by simp; omega)
      have hs2 : sopV .add [Tx (Lib.itoa x.1 ++ [45]), Tx (Lib.itoa x.2)] = some (Tx (etx x)) := (sopV_add _ _ (by simp; omega)).trans (by unfold etx; simp)
      repeat (first | (with_reducible first | refine SW.seq ?_ | refine SW.block ?_ | refine SW.rowC ?_ | refine SW.skip ?_ | refine SW.exit ?_ | refine PFn.use (hd1) ?_ | refine PFn.useq (hd1) ?_ | refine PFn.use (hd2) ?_ | refine PFn.useq (hd2) ?_ | intro _ | refine And.intro (by omega) ?_) | simp (config := { maxSteps := 1000000 }) (disch := (first | omega | (simp only [go_sem]; try omega))) only [go_sem, Nat.reduceAdd, Nat.reduceEqDiff, Nat.reduceLeDiff, Nat.reduceMul, Nat.reduceLT, reduceIte, Int.reduceToNat, w64_id, cast_succ, l1, hs1, hs2])
      have hg2 := hg.same (H' := H1 ++ [⟨0, 49, 1, [I x.1, I x.2]⟩]) (fun j b _ h => by rw [List.getElem?_append_left (List.getElem?_eq_some_iff.1 h).1]; exact h)
      rw [show H1 ++ [(⟨0, 49, 1, [I x.1, I x.2]⟩ : Blk), ⟨0, 9, 1, [Tx (etx x)]⟩] = (H1 ++ [⟨0, 49, 1, [I x.1, I x.2]⟩]) ++ [⟨0, 9, 1, [Tx (etx x)]⟩] by simp]
      refine GrowF.appX hg2 (by simp; omega) rfl (by simp; rfl) (by omega) (by omega) ?_
      intro v3 H3 d1 d2 d3
      rw [List.length_append, List.length_singleton] at d2
      have hkp : ∀ j, j < H.length + 1 → H3[j]? = H1[j]? := fun j hj => (d3 j hj).trans (List.getElem?_append_left (by omega))
      repeat (first | (with_reducible first | refine SW.seq ?_ | refine SW.block ?_ | refine SW.rowC ?_ | refine SW.skip ?_ | refine SW.exit ?_ | intro _ | refine And.intro (by omega) ?_) | simp (config := { maxSteps := 1000000 }) (disch := (first | omega | (simp only [go_sem]; try omega))) only [go_sem, Nat.reduceAdd, Nat.reduceEqDiff, Nat.reduceLeDiff, Nat.reduceMul, Nat.reduceLT, reduceIte, Int.reduceToNat, w64_id, cast_succ, d1.one.1, d1.one.2])
      refine SLoop.next post.length (by simp) ⟨pre ++ [x], post, v3, by rw [hq]; simp, rfl, ?_, by rw [hkp _ (by omega)]; exact hbx, ?_, by omega, fun j hj => (hkp j (by omega)).trans (hk1 j hj)⟩
      · simp only [List.length_append, List.length_singleton]; rfl
      · rw [List.map_append, List.map_append, List.length_append]; exact d1
    · obtain ⟨rfl, rfl⟩ := nilOf hq (by omega)
      have hjb := join_len (m := 40) (sep := 44) (xs := pre.map etx) (fun p hp => by obtain ⟨e, he, rfl⟩ := List.mem_map.1 hp; have := b4 e he; exact etx_len (by omega) (by omega))
      rw [List.length_map] at hjb
      have hj := (join_fn (pre.map etx) [44] (by simp; omega) (by omega)).lend (H := H1) (.cons (hg.frozT (Nat.zero_le _)) (.cons (.old _ (.lit _)) .nil))
      have hs1 : sopV .add [Tx (ltx cols), Tx [59]] = some (Tx (ltx cols ++ [59])) := sopV_add _ _ (by simp; omega)
      have hs2 : sopV .add [Tx (ltx cols ++ [59]), Tx (Lib.join (pre.map etx) [44])] = some (Tx (gtx cols pre)) := (sopV_add _ _ (by simp; omega)).trans (by unfold gtx; simp)
      repeat (first | (with_reducible first | refine SW.seq ?_ | refine SW.block ?_ | refine SW.rowC ?_ | refine SW.skip ?_ | refine SW.exit ?_ | refine PFn.use (hlt) ?_ | refine PFn.useq (hlt) ?_ | intro _ | refine And.intro (by omega) ?_) | simp (config := { maxSteps := 1000000 }) (disch := (first | omega | (simp only [go_sem]; try omega))) only [go_sem, Nat.reduceAdd, Nat.reduceEqDiff, Nat.reduceLeDiff, Nat.reduceMul, Nat.reduceLT, reduceIte, Int.reduceToNat, w64_id, cast_succ, pc_alive hbx, pc_ld hbx, hs1])
      refine ACalls.fn hj ?_
      repeat (first | (with_reducible first | refine SW.seq ?_ | refine SW.block ?_ | refine SW.rowC ?_ | refine SW.skip ?_ | refine SW.exit ?_ | intro _ | refine And.intro (by omega) ?_) | simp (config := { maxSteps := 1000000 }) (disch := (first | omega | (simp only [go_sem]; try omega))) only [go_sem, Nat.reduceAdd, Nat.reduceEqDiff, Nat.reduceLeDiff, Nat.reduceMul, Nat.reduceLT, reduceIte, Int.reduceToNat, w64_id, cast_succ, hs2])
      refine SW.ret ⟨_, rfl, ?_⟩
      exact GR.frozP (prefix_of (by omega) hk1) (.old _ (.lit _)) ⟨rfl, rfl⟩
end Go.Proofs.YtdgcgckehihboaaGreatDoor
