/- Texts of numbers and lists: the program. -/
import Derived.Test.YtdgcgckehihboaaDoorProg
import Derived.KernelRfl
import Derived.Lib.ParseIntBTie
import Derived.Test.YtdgcgckehihboaaDoorZC
import Derived.Test.YtdgcgckehihboaaDoorIX
import Derived.Test.YtdgcgckehihboaaDoorE4
set_option linter.unusedSimpArgs false
set_option linter.unusedVariables false
set_option maxHeartbeats 4000000
set_option maxRecDepth 100000
namespace Go.Proofs.YtdgcgckehihboaaDoor
open Go.Av

/-! The abstract code of functions, printed by program and tied to the program by the kernel. -/
/-- loop.example/g00920/impl.ReadDecimal -/
abbrev f_impl_ReadDecimal : Nat := 16
def c_impl_ReadDecimal : SC :=
 .seq (.reg [
     ⟨(some 2), .mv (.const (.int .i64 0)), none⟩,
     ⟨(some 3), .mv (.const (.bool false)), none⟩] [0])
 (.seq (.reg [
     ⟨(some 7), .mv (.tmp 0), none⟩,
     ⟨(some 8), .call 33 [(.tmp 7), (.const (.string ⟨#[45]⟩))], none⟩,
     ⟨(some 4), .mv (.tmp 8), none⟩] [0, 4])
 (.seq (.seq (.reg [
     ⟨(some 9), .mv (.tmp 4), none⟩,
     ⟨(some 10), .sop .len [(.tmp 9)], none⟩,
     ⟨(some 11), .bin .lss (.tmp 10) (.const (.int .i64 1)), none⟩,
     ⟨(some 12), .mv (.tmp 11), none⟩,
     ⟨(some 13), .mv (.tmp 4), (some (12, false))⟩,
     ⟨(some 14), .sop .len [(.tmp 13)], (some (12, false))⟩,
     ⟨(some 15), .bin .gtr (.tmp 14) (.const (.int .i64 18)), (some (12, false))⟩,
     ⟨(some 16), .pick (.tmp 12) (.const (.bool true)) (.tmp 15), none⟩] [0, 16])
 (.cond (.tmp 16)
  (.seq (.reg [
      ⟨(some 2), .mv (.const (.int .i64 0)), none⟩,
      ⟨(some 3), .mv (.const (.bool false)), none⟩] [2, 3])
  (.ret))
  (.skip)))
 (.seq (.reg [
     ⟨(some 18), .mv (.tmp 0), none⟩,
     ⟨(some 19), .call 34 [(.tmp 18), (.const (.int .i64 10)), (.const (.int .i64 64))], none⟩,
     ⟨(some 17), .mv (.tmp 19), none⟩,
     ⟨(some 20), .ext (.tmp 17) 0, none⟩,
     ⟨(some 21), .ext (.tmp 17) 1, none⟩,
     ⟨(some 5), .mv (.tmp 20), none⟩,
     ⟨(some 6), .mv (.tmp 21), none⟩] [0, 5, 6])
 (.seq (.seq (.reg [
     ⟨(some 22), .mv (.tmp 6), none⟩,
     ⟨(some 23), .sop (.nil true) [(.tmp 22)], none⟩,
     ⟨(some 24), .mv (.tmp 23), none⟩,
     ⟨(some 25), .mv (.tmp 5), (some (24, false))⟩,
     ⟨(some 26), .call 35 [(.tmp 25)], (some (24, false))⟩,
     ⟨(some 27), .mv (.tmp 0), (some (24, false))⟩,
     ⟨(some 28), .sop (.eql true) [(.tmp 26), (.tmp 27)], (some (24, false))⟩,
     ⟨(some 29), .pick (.tmp 24) (.const (.bool true)) (.tmp 28), none⟩] [5, 29])
 (.cond (.tmp 29)
  (.seq (.reg [
      ⟨(some 2), .mv (.const (.int .i64 0)), none⟩,
      ⟨(some 3), .mv (.const (.bool false)), none⟩] [2, 3])
  (.ret))
  (.skip)))
 (.seq (.reg [
     ⟨(some 30), .mv (.tmp 5), none⟩,
     ⟨(some 2), .mv (.tmp 30), none⟩,
     ⟨(some 3), .mv (.const (.bool true)), none⟩] [2, 3])
 (.ret))))))
theorem s_impl_ReadDecimal : stripF Tryd.prog 16 [[0], [0, 4], [0, 16], [2, 3], [0, 5, 6], [5, 29], [2, 3], [2, 3]] = some (c_impl_ReadDecimal, [.tmp 2, .tmp 3], 31) := by kernel_rfl

/-- loop.example/g00920/impl.ListText -/
abbrev f_impl_ListText : Nat := 31
def c_impl_ListText : SC :=
 .seq (.reg [
     ⟨(some 2), .mv (.const (.string ByteArray.empty)), none⟩] [0])
 (.seq (.seq (.reg [
     ⟨(some 6), .mv (.tmp 0), none⟩,
     ⟨(some 7), .len (.tmp 6), none⟩,
     ⟨(some 8), .bin .gtr (.tmp 7) (.const (.int .i64 100)), none⟩,
     ⟨(some 9), .mv (.tmp 8), none⟩,
     ⟨(some 10), .mv (.tmp 0), (some (9, false))⟩,
     ⟨(some 11), .call 42 [(.tmp 10), (.func 43)], (some (9, false))⟩,
     ⟨(some 12), .pick (.tmp 9) (.const (.bool true)) (.tmp 11), none⟩] [0, 12])
 (.cond (.tmp 12)
  (.seq (.reg [
      ⟨(some 2), .mv (.const (.string ByteArray.empty)), none⟩] [2])
  (.ret))
  (.skip)))
 (.seq (.seq (.reg [
     ⟨(some 13), .mv (.tmp 0), none⟩,
     ⟨(some 14), .len (.tmp 13), none⟩,
     ⟨(some 15), .bin .eql (.tmp 14) (.const (.int .i64 0)), none⟩] [0, 15])
 (.cond (.tmp 15)
  (.seq (.reg [
      ⟨(some 2), .mv (.const (.string ⟨#[45]⟩)), none⟩] [2])
  (.ret))
  (.skip)))
 (.seq (.reg [
     ⟨(some 3), .mv (.const (.slice none 0 0)), none⟩] [0, 3])
 (.seq (.seq (.reg [
     ⟨(some 16), .mv (.tmp 0), none⟩,
     ⟨(some 17), .len (.tmp 16), none⟩,
     ⟨(some 18), .mv (.const (.int .i64 0)), none⟩] [3, 16, 17, 18])
 (.block 0 (.loop [3, 16, 17, 18]
   (.seq (.reg [
       ⟨(some 19), .bin .lss (.tmp 18) (.tmp 17), none⟩] [3, 16, 17, 18, 19])
   (.seq (.cond (.tmp 19)
    (.skip)
    (.exit 0))
   (.seq (.block 1 (.seq (.reg [
        ⟨(some 20), .iaddr 1 (.tmp 16) (.tmp 18), none⟩,
        ⟨(some 21), .load 1 false (.tmp 20), none⟩,
        ⟨(some 5), .mv (.tmp 21), none⟩] [3, 5, 16, 17, 18])
    (.reg [
        ⟨(some 22), .mv (.tmp 3), none⟩,
        ⟨(some 23), .mv (.tmp 5), none⟩,
        ⟨(some 24), .call 35 [(.tmp 23)], none⟩,
        ⟨(some 25), .bslice 9 1 1 [(.string ByteArray.empty)] [(0, (.tmp 24))], none⟩,
        ⟨(some 26), .app 9 1 16 (.tmp 22) (.tmp 25), none⟩,
        ⟨(some 3), .mv (.tmp 26), none⟩] [3, 16, 17, 18])))
   (.reg [
       ⟨(some 27), .bin .add (.tmp 18) (.const (.int .i64 1)), none⟩,
       ⟨(some 18), .mv (.tmp 27), none⟩] [3, 16, 17, 18])))))))
 (.seq (.reg [
     ⟨(some 28), .mv (.tmp 3), none⟩,
     ⟨(some 29), .call 39 [(.tmp 28), (.const (.string ⟨#[44]⟩))], none⟩,
     ⟨(some 2), .mv (.tmp 29), none⟩] [2])
 (.ret))))))
theorem s_impl_ListText : stripF Tryd.prog 31 [[0], [0, 12], [2], [0, 15], [2], [0, 3], [3, 16, 17, 18], [3, 16, 17, 18], [3, 16, 17, 18, 19], [3, 5, 16, 17, 18], [3, 16, 17, 18], [3, 16, 17, 18], [2]] = some (c_impl_ListText, [.tmp 2], 30) := by kernel_rfl

/-- loop.example/g00920/impl.Decimal -/
abbrev f_impl_Decimal : Nat := 35
def c_impl_Decimal : SC :=
 .seq (.reg [
     ⟨(some 2), .mv (.const (.string ByteArray.empty)), none⟩] [0])
 (.seq (.reg [
     ⟨(some 3), .mv (.tmp 0), none⟩,
     ⟨(some 4), .call 51 [(.tmp 3), (.const (.int .i64 10))], none⟩,
     ⟨(some 2), .mv (.tmp 4), none⟩] [2])
 (.ret))
theorem s_impl_Decimal : stripF Tryd.prog 35 [[0], [2]] = some (c_impl_Decimal, [.tmp 2], 5) := by kernel_rfl

/-- loop.example/g00920/impl.ListText$1 -/
abbrev f_impl_ListText_c1 : Nat := 43
def c_impl_ListText_c1 : SC :=
 .seq (.reg [
     ⟨(some 2), .mv (.const (.bool false)), none⟩] [0])
 (.seq (.reg [
     ⟨(some 3), .mv (.tmp 0), none⟩,
     ⟨(some 4), .call 44 [(.tmp 3), (.const (.int .i64 (-999999999))), (.const (.int .i64 999999999))], none⟩,
     ⟨(some 5), .un .not (.tmp 4), none⟩,
     ⟨(some 2), .mv (.tmp 5), none⟩] [2])
 (.ret))
theorem s_impl_ListText_c1 : stripF Tryd.prog 43 [[0], [2]] = some (c_impl_ListText_c1, [.tmp 2], 6) := by kernel_rfl


theorem decimal_fn (n : Int) (h0 : -9223372036854775808 ≤ n) (h1 : n ≤ 9223372036854775807) : PFn Tryd.prog f_impl_Decimal [I n] (Tx (Lib.itoa n)) := by
  have hf := fmt_fn n h0 h1
  intro H
  refine ACalls.introB s_impl_Decimal (by simp) ?_; intro hB hA; unfold c_impl_Decimal; simp (config := { maxSteps := 1000000 }) (disch := (first | omega | (simp only [go_sem]; try omega))) only [go_sem, Nat.reduceAdd, Nat.reduceEqDiff, Nat.reduceLeDiff, Nat.reduceMul, Nat.reduceLT, reduceIte, Int.reduceToNat, w64_id, cast_succ]
  repeat (first | (with_reducible first | refine SW.seq ?_ | refine SW.block ?_ | refine SW.rowC ?_ | refine SW.skip ?_ | refine SW.exit ?_ | refine PFn.use (hf) ?_ | refine PFn.useq (hf) ?_ | intro _ | refine And.intro (by omega) ?_) | simp (config := { maxSteps := 1000000 }) (disch := (first | omega | (simp only [go_sem]; try omega))) only [go_sem, Nat.reduceAdd, Nat.reduceEqDiff, Nat.reduceLeDiff, Nat.reduceMul, Nat.reduceLT, reduceIte, Int.reduceToNat, w64_id, cast_succ])
  refine SW.ret ?_; (try simp only [go_sem]); (first | refine FunPost.one ?_ | refine FunPost.two ?_ | refine FunPost.three ?_); (try simp (config := { maxSteps := 1000000 }) (disch := (first | omega | (simp only [go_sem]; try omega))) only [go_sem, Nat.reduceAdd, Nat.reduceEqDiff, Nat.reduceLeDiff, Nat.reduceMul, Nat.reduceLT, reduceIte, Int.reduceToNat, w64_id, cast_succ]); (first | (with_reducible refine GR.drop ?_ ?_; (simp only [go_sem, and_self, and_true, true_and, implies_true, List.take_succ_cons, List.take_zero])) | refine GR.of ?_); refine ⟨?_, rfl⟩; (try with_reducible rfl)
theorem readDecimal_fn (s : List UInt8) (hs : s.length ≤ 2000000) : PFn Tryd.prog f_impl_ReadDecimal [Tx s] (.tup [I ((rdD s).getD 0), Bv (rdD s).isSome]) := by
  have ht := trim_fn s [45]
  unfold rdD
  generalize Lib.trimPrefix s [45] = t at *
  intro H
  refine ACalls.introB s_impl_ReadDecimal (by simp) ?_; intro hB hA; unfold c_impl_ReadDecimal; simp (config := { maxSteps := 1000000 }) (disch := (first | omega | (simp only [go_sem]; try omega))) only [go_sem, Nat.reduceAdd, Nat.reduceEqDiff, Nat.reduceLeDiff, Nat.reduceMul, Nat.reduceLT, reduceIte, Int.reduceToNat, w64_id, cast_succ]
  repeat (first | (with_reducible first | refine SW.seq ?_ | refine SW.block ?_ | refine SW.rowC ?_ | refine SW.skip ?_ | refine SW.exit ?_ | refine PFn.use (ht) ?_ | refine PFn.useq (ht) ?_ | intro _ | refine And.intro (by omega) ?_) | simp (config := { maxSteps := 1000000 }) (disch := (first | omega | (simp only [go_sem]; try omega))) only [go_sem, Nat.reduceAdd, Nat.reduceEqDiff, Nat.reduceLeDiff, Nat.reduceMul, Nat.reduceLT, reduceIte, Int.reduceToNat, w64_id, cast_succ])
  by_cases hl : 1 ≤ t.length ∧ t.length ≤ 18
  · rw [if_pos hl]
    have d1 : decide ((t.length : Int) < 1) = false := decide_eq_false (by omega)
    have d2 : decide ((18 : Int) < (t.length : Int)) = false := decide_eq_false (by omega)
    repeat (first | (with_reducible first | refine SW.seq ?_ | refine SW.block ?_ | refine SW.rowC ?_ | refine SW.skip ?_ | refine SW.exit ?_ | intro _ | refine And.intro (by omega) ?_) | simp (config := { maxSteps := 1000000 }) (disch := (first | omega | (simp only [go_sem]; try omega))) only [go_sem, Nat.reduceAdd, Nat.reduceEqDiff, Nat.reduceLeDiff, Nat.reduceMul, Nat.reduceLT, reduceIte, Int.reduceToNat, w64_id, cast_succ, d1, d2])
    refine SW.condF rfl ?_
    rcases hp : Lib.parseIntB 64 s with v | _ | _
    · have hb := Lib.parseIntB_bounds hp
      have hb1 : -9223372036854775808 ≤ v ∧ v ≤ 9223372036854775807 := by
        have h2 : ((2 ^ (64 - 1) : Nat) : Int) = 9223372036854775808 := by decide
        rw [h2] at hb; omega
      have hd := decimal_fn v hb1.1 hb1.2
      simp only
      repeat (first | (with_reducible first | refine SW.seq ?_ | refine SW.block ?_ | refine SW.rowC ?_ | refine SW.skip ?_ | refine SW.exit ?_ | refine PFn.use (parse_ok s v (by omega) hp) ?_ | refine PFn.useq (parse_ok s v (by omega) hp) ?_ | intro _ | refine And.intro (by omega) ?_) | simp (config := { maxSteps := 1000000 }) (disch := (first | omega | (simp only [go_sem]; try omega))) only [go_sem, Nat.reduceAdd, Nat.reduceEqDiff, Nat.reduceLeDiff, Nat.reduceMul, Nat.reduceLT, reduceIte, Int.reduceToNat, w64_id, cast_succ])
      by_cases hi : Lib.itoa v = s
      · have d3 : decide (Lib.itoa v = s) = true := decide_eq_true hi
        rw [if_pos hi]
        repeat (first | (with_reducible first | refine SW.seq ?_ | refine SW.block ?_ | refine SW.rowC ?_ | refine SW.skip ?_ | refine SW.exit ?_ | refine PFn.use (hd) ?_ | refine PFn.useq (hd) ?_ | intro _ | refine And.intro (by omega) ?_) | simp (config := { maxSteps := 1000000 }) (disch := (first | omega | (simp only [go_sem]; try omega))) only [go_sem, Nat.reduceAdd, Nat.reduceEqDiff, Nat.reduceLeDiff, Nat.reduceMul, Nat.reduceLT, reduceIte, Int.reduceToNat, w64_id, cast_succ, d3, Bool.not_true])
        refine SW.condF rfl ?_
        repeat (first | (with_reducible first | refine SW.seq ?_ | refine SW.block ?_ | refine SW.rowC ?_ | refine SW.skip ?_ | refine SW.exit ?_ | intro _ | refine And.intro (by omega) ?_) | simp (config := { maxSteps := 1000000 }) (disch := (first | omega | (simp only [go_sem]; try omega))) only [go_sem, Nat.reduceAdd, Nat.reduceEqDiff, Nat.reduceLeDiff, Nat.reduceMul, Nat.reduceLT, reduceIte, Int.reduceToNat, w64_id, cast_succ])
        refine SW.ret ?_; (try simp only [go_sem]); (first | refine FunPost.one ?_ | refine FunPost.two ?_ | refine FunPost.three ?_); (try simp (config := { maxSteps := 1000000 }) (disch := (first | omega | (simp only [go_sem]; try omega))) only [go_sem, Nat.reduceAdd, Nat.reduceEqDiff, Nat.reduceLeDiff, Nat.reduceMul, Nat.reduceLT, reduceIte, Int.reduceToNat, w64_id, cast_succ]); (first | (with_reducible refine GR.drop ?_ ?_; (simp only [go_sem, and_self, and_true, true_and, implies_true, List.take_succ_cons, List.take_zero])) | refine GR.of ?_); refine ⟨?_, rfl⟩; (try with_reducible rfl)
        rfl
      · have d3 : decide (Lib.itoa v = s) = false := decide_eq_false hi
        rw [if_neg hi]
        repeat (first | (with_reducible first | refine SW.seq ?_ | refine SW.block ?_ | refine SW.rowC ?_ | refine SW.skip ?_ | refine SW.exit ?_ | refine PFn.use (hd) ?_ | refine PFn.useq (hd) ?_ | intro _ | refine And.intro (by omega) ?_) | simp (config := { maxSteps := 1000000 }) (disch := (first | omega | (simp only [go_sem]; try omega))) only [go_sem, Nat.reduceAdd, Nat.reduceEqDiff, Nat.reduceLeDiff, Nat.reduceMul, Nat.reduceLT, reduceIte, Int.reduceToNat, w64_id, cast_succ, d3, Bool.not_false])
        refine SW.condT rfl ?_
        repeat (first | (with_reducible first | refine SW.seq ?_ | refine SW.block ?_ | refine SW.rowC ?_ | refine SW.skip ?_ | refine SW.exit ?_ | intro _ | refine And.intro (by omega) ?_) | simp (config := { maxSteps := 1000000 }) (disch := (first | omega | (simp only [go_sem]; try omega))) only [go_sem, Nat.reduceAdd, Nat.reduceEqDiff, Nat.reduceLeDiff, Nat.reduceMul, Nat.reduceLT, reduceIte, Int.reduceToNat, w64_id, cast_succ])
        refine SW.ret ?_; (try simp only [go_sem]); (first | refine FunPost.one ?_ | refine FunPost.two ?_ | refine FunPost.three ?_); (try simp (config := { maxSteps := 1000000 }) (disch := (first | omega | (simp only [go_sem]; try omega))) only [go_sem, Nat.reduceAdd, Nat.reduceEqDiff, Nat.reduceLeDiff, Nat.reduceMul, Nat.reduceLT, reduceIte, Int.reduceToNat, w64_id, cast_succ]); (first | (with_reducible refine GR.drop ?_ ?_; (simp only [go_sem, and_self, and_true, true_and, implies_true, List.take_succ_cons, List.take_zero])) | refine GR.of ?_); refine ⟨?_, rfl⟩; (try with_reducible rfl)
        rfl
    · have he := fun HH => parse_err HH s (by omega) (fun v h => by rw [hp] at h; cases h)
      simp only
      repeat (first | (with_reducible first | refine SW.seq ?_ | refine SW.block ?_ | refine SW.rowC ?_ | refine SW.skip ?_ | refine SW.exit ?_ | intro _ | refine And.intro (by omega) ?_) | simp (config := { maxSteps := 1000000 }) (disch := (first | omega | (simp only [go_sem]; try omega))) only [go_sem, Nat.reduceAdd, Nat.reduceEqDiff, Nat.reduceLeDiff, Nat.reduceMul, Nat.reduceLT, reduceIte, Int.reduceToNat, w64_id, cast_succ])
      refine (he _).mono ?_
      rintro r H' ⟨⟨v, q, z, rfl⟩, rfl⟩
      repeat (first | (with_reducible first | refine SW.seq ?_ | refine SW.block ?_ | refine SW.rowC ?_ | refine SW.skip ?_ | refine SW.exit ?_ | intro _ | refine And.intro (by omega) ?_) | simp (config := { maxSteps := 1000000 }) (disch := (first | omega | (simp only [go_sem]; try omega))) only [go_sem, Nat.reduceAdd, Nat.reduceEqDiff, Nat.reduceLeDiff, Nat.reduceMul, Nat.reduceLT, reduceIte, Int.reduceToNat, w64_id, cast_succ])
      refine SW.condT rfl ?_
      repeat (first | (with_reducible first | refine SW.seq ?_ | refine SW.block ?_ | refine SW.rowC ?_ | refine SW.skip ?_ | refine SW.exit ?_ | intro _ | refine And.intro (by omega) ?_) | simp (config := { maxSteps := 1000000 }) (disch := (first | omega | (simp only [go_sem]; try omega))) only [go_sem, Nat.reduceAdd, Nat.reduceEqDiff, Nat.reduceLeDiff, Nat.reduceMul, Nat.reduceLT, reduceIte, Int.reduceToNat, w64_id, cast_succ])
      refine SW.ret ?_; (try simp only [go_sem]); (first | refine FunPost.one ?_ | refine FunPost.two ?_ | refine FunPost.three ?_); (try simp (config := { maxSteps := 1000000 }) (disch := (first | omega | (simp only [go_sem]; try omega))) only [go_sem, Nat.reduceAdd, Nat.reduceEqDiff, Nat.reduceLeDiff, Nat.reduceMul, Nat.reduceLT, reduceIte, Int.reduceToNat, w64_id, cast_succ]); (first | (with_reducible refine GR.drop ?_ ?_; (simp only [go_sem, and_self, and_true, true_and, implies_true, List.take_succ_cons, List.take_zero])) | refine GR.of ?_); refine ⟨?_, rfl⟩; (try with_reducible rfl)
      rfl
    · have he := fun HH => parse_err HH s (by omega) (fun v h => by rw [hp] at h; cases h)
      simp only
      repeat (first | (with_reducible first | refine SW.seq ?_ | refine SW.block ?_ | refine SW.rowC ?_ | refine SW.skip ?_ | refine SW.exit ?_ | intro _ | refine And.intro (by omega) ?_) | simp (config := { maxSteps := 1000000 }) (disch := (first | omega | (simp only [go_sem]; try omega))) only [go_sem, Nat.reduceAdd, Nat.reduceEqDiff, Nat.reduceLeDiff, Nat.reduceMul, Nat.reduceLT, reduceIte, Int.reduceToNat, w64_id, cast_succ])
      refine (he _).mono ?_
      rintro r H' ⟨⟨v, q, z, rfl⟩, rfl⟩
      repeat (first | (with_reducible first | refine SW.seq ?_ | refine SW.block ?_ | refine SW.rowC ?_ | refine SW.skip ?_ | refine SW.exit ?_ | intro _ | refine And.intro (by omega) ?_) | simp (config := { maxSteps := 1000000 }) (disch := (first | omega | (simp only [go_sem]; try omega))) only [go_sem, Nat.reduceAdd, Nat.reduceEqDiff, Nat.reduceLeDiff, Nat.reduceMul, Nat.reduceLT, reduceIte, Int.reduceToNat, w64_id, cast_succ])
      refine SW.condT rfl ?_
      repeat (first | (with_reducible first | refine SW.seq ?_ | refine SW.block ?_ | refine SW.rowC ?_ | refine SW.skip ?_ | refine SW.exit ?_ | intro _ | refine And.intro (by omega) ?_) | simp (config := { maxSteps := 1000000 }) (disch := (first | omega | (simp only [go_sem]; try omega))) only [go_sem, Nat.reduceAdd, Nat.reduceEqDiff, Nat.reduceLeDiff, Nat.reduceMul, Nat.reduceLT, reduceIte, Int.reduceToNat, w64_id, cast_succ])
      refine SW.ret ?_; (try simp only [go_sem]); (first | refine FunPost.one ?_ | refine FunPost.two ?_ | refine FunPost.three ?_); (try simp (config := { maxSteps := 1000000 }) (disch := (first | omega | (simp only [go_sem]; try omega))) only [go_sem, Nat.reduceAdd, Nat.reduceEqDiff, Nat.reduceLeDiff, Nat.reduceMul, Nat.reduceLT, reduceIte, Int.reduceToNat, w64_id, cast_succ]); (first | (with_reducible refine GR.drop ?_ ?_; (simp only [go_sem, and_self, and_true, true_and, implies_true, List.take_succ_cons, List.take_zero])) | refine GR.of ?_); refine ⟨?_, rfl⟩; (try with_reducible rfl)
      rfl
  · rw [if_neg hl]
    (first | refine GSplit.df (fun h5 => ?_) (fun h5 => ?_) | refine GSplit.dt (fun h5 => ?_) (fun h5 => ?_) | refine GSplit.ndf (fun h5 => ?_) (fun h5 => ?_) | refine GSplit.ndt (fun h5 => ?_) (fun h5 => ?_) | refine GSplit.nbf (fun h5 => ?_) (fun h5 => ?_) | refine GSplit.nbt (fun h5 => ?_) (fun h5 => ?_) | refine GSplit.bf (fun h5 => ?_) (fun h5 => ?_) | refine GSplit.bt (fun h5 => ?_) (fun h5 => ?_))
    · have d2 : decide ((18 : Int) < (t.length : Int)) = true := decide_eq_true (by omega)
      repeat (first | (with_reducible first | refine SW.seq ?_ | refine SW.block ?_ | refine SW.rowC ?_ | refine SW.skip ?_ | refine SW.exit ?_ | intro _ | refine And.intro (by omega) ?_) | simp (config := { maxSteps := 1000000 }) (disch := (first | omega | (simp only [go_sem]; try omega))) only [go_sem, Nat.reduceAdd, Nat.reduceEqDiff, Nat.reduceLeDiff, Nat.reduceMul, Nat.reduceLT, reduceIte, Int.reduceToNat, w64_id, cast_succ, d2])
      refine SW.condT rfl ?_
      repeat (first | (with_reducible first | refine SW.seq ?_ | refine SW.block ?_ | refine SW.rowC ?_ | refine SW.skip ?_ | refine SW.exit ?_ | intro _ | refine And.intro (by omega) ?_) | simp (config := { maxSteps := 1000000 }) (disch := (first | omega | (simp only [go_sem]; try omega))) only [go_sem, Nat.reduceAdd, Nat.reduceEqDiff, Nat.reduceLeDiff, Nat.reduceMul, Nat.reduceLT, reduceIte, Int.reduceToNat, w64_id, cast_succ])
      refine SW.ret ?_; (try simp only [go_sem]); (first | refine FunPost.one ?_ | refine FunPost.two ?_ | refine FunPost.three ?_); (try simp (config := { maxSteps := 1000000 }) (disch := (first | omega | (simp only [go_sem]; try omega))) only [go_sem, Nat.reduceAdd, Nat.reduceEqDiff, Nat.reduceLeDiff, Nat.reduceMul, Nat.reduceLT, reduceIte, Int.reduceToNat, w64_id, cast_succ]); (first | (with_reducible refine GR.drop ?_ ?_; (simp only [go_sem, and_self, and_true, true_and, implies_true, List.take_succ_cons, List.take_zero])) | refine GR.of ?_); refine ⟨?_, rfl⟩; (try with_reducible rfl)
      rfl
    · refine SW.condT rfl ?_
      repeat (first | (with_reducible first | refine SW.seq ?_ | refine SW.block ?_ | refine SW.rowC ?_ | refine SW.skip ?_ | refine SW.exit ?_ | intro _ | refine And.intro (by omega) ?_) | simp (config := { maxSteps := 1000000 }) (disch := (first | omega | (simp only [go_sem]; try omega))) only [go_sem, Nat.reduceAdd, Nat.reduceEqDiff, Nat.reduceLeDiff, Nat.reduceMul, Nat.reduceLT, reduceIte, Int.reduceToNat, w64_id, cast_succ])
      refine SW.ret ?_; (try simp only [go_sem]); (first | refine FunPost.one ?_ | refine FunPost.two ?_ | refine FunPost.three ?_); (try simp (config := { maxSteps := 1000000 }) (disch := (first | omega | (simp only [go_sem]; try omega))) only [go_sem, Nat.reduceAdd, Nat.reduceEqDiff, Nat.reduceLeDiff, Nat.reduceMul, Nat.reduceLT, reduceIte, Int.reduceToNat, w64_id, cast_succ]); (first | (with_reducible refine GR.drop ?_ ?_; (simp only [go_sem, and_self, and_true, true_and, implies_true, List.take_succ_cons, List.take_zero])) | refine GR.of ?_); refine ⟨?_, rfl⟩; (try with_reducible rfl)
      rfl
/-- Texts grown in memory of the call's own are read. -/
theorem GrowF.frozT {H : List Blk} {base ty n b : Nat} {v : AV} {xs : List (List UInt8)} (h : GrowF H base ty 1 v n (xs.map Tx)) (hb : b ≤ base) : Froz H b v (ilT xs) := by
  rcases h with ⟨rfl, h0, h1⟩ | ⟨r, ver, rfl, h1, h2, h3⟩
  · have : xs = [] := by simpa using h1
    subst this
    exact .nil
  · exact froz_T (by omega) h2 (by simpa using h3.symm)
theorem listText_c1_fn (n : Int) : PFn Tryd.prog f_impl_ListText_c1 [I n] (Bv (!(decide (-999999999 ≤ n) && decide (n ≤ 999999999)))) := by
  intro H; refine ACalls.introB s_impl_ListText_c1 (by simp) ?_; intro hB hA; unfold c_impl_ListText_c1; simp (config := { maxSteps := 1000000 }) (disch := (first | omega | (simp only [go_sem]; try omega))) only [go_sem, Nat.reduceAdd, Nat.reduceEqDiff, Nat.reduceLeDiff, Nat.reduceMul, Nat.reduceLT, reduceIte, Int.reduceToNat, w64_id, cast_succ]
  repeat (first | (with_reducible first | refine SW.seq ?_ | refine SW.block ?_ | refine SW.rowC ?_ | refine SW.skip ?_ | refine SW.exit ?_ | refine PFn.use (within_fn _ _ _) ?_ | refine PFn.useq (within_fn _ _ _) ?_ | intro _ | refine And.intro (by omega) ?_) | simp (config := { maxSteps := 1000000 }) (disch := (first | omega | (simp only [go_sem]; try omega))) only [go_sem, Nat.reduceAdd, Nat.reduceEqDiff, Nat.reduceLeDiff, Nat.reduceMul, Nat.reduceLT, reduceIte, Int.reduceToNat, w64_id, cast_succ])
  refine SW.ret ?_; (try simp only [go_sem]); (first | refine FunPost.one ?_ | refine FunPost.two ?_ | refine FunPost.three ?_); (try simp (config := { maxSteps := 1000000 }) (disch := (first | omega | (simp only [go_sem]; try omega))) only [go_sem, Nat.reduceAdd, Nat.reduceEqDiff, Nat.reduceLeDiff, Nat.reduceMul, Nat.reduceLT, reduceIte, Int.reduceToNat, w64_id, cast_succ]); (first | (with_reducible refine GR.drop ?_ ?_; (simp only [go_sem, and_self, and_true, true_and, implies_true, List.take_succ_cons, List.take_zero])) | refine GR.of ?_); refine ⟨?_, rfl⟩; (try with_reducible rfl)
theorem listText_call : callable Tryd.prog f_impl_ListText_c1 = true := by kernel_rfl
theorem join_len {m : Nat} {sep : UInt8} : ∀ {xs : List (List UInt8)}, (∀ x ∈ xs, x.length ≤ m) → (Lib.join xs [sep]).length ≤ xs.length * (m + 1)
  | [], _ => by rw [Lib.join_nil]; simp
  | [x], h => by rw [Lib.join_one]; have := h x (by simp); simp; omega
  | x :: y :: r, h => by
    rw [join_two sep x (by simp), List.length_append, List.length_cons]
    have h1 := h x (by simp)
    have h2 := join_len (sep := sep) (xs := y :: r) (fun z hz => h z (List.mem_cons_of_mem _ hz))
    rw [List.length_cons, Nat.succ_mul]
    omega
theorem itoa_len {n : Int} (h : n.natAbs < 10 ^ 18) : (Lib.itoa n).length ≤ 19 := by
  have h1 := body_itoa n
  have h2 := (dec_len18 n.natAbs).2 h
  unfold Lib.itoa
  split
  · rw [List.length_cons]; omega
  · rw [show n.toNat = n.natAbs by omega]; omega
theorem listText_fn (l : List Int) : PFn Tryd.prog f_impl_ListText [ilS l] (Tx (lText l)) := by
  intro H
  refine ACalls.introB s_impl_ListText (by simp) ?_; intro hB hA; unfold c_impl_ListText; simp (config := { maxSteps := 1000000 }) (disch := (first | omega | (simp only [go_sem]; try omega))) only [go_sem, Nat.reduceAdd, Nat.reduceEqDiff, Nat.reduceLeDiff, Nat.reduceMul, Nat.reduceLT, reduceIte, Int.reduceToNat, w64_id, cast_succ]
  repeat (first | (with_reducible first | refine SW.seq ?_ | refine SW.block ?_ | refine SW.rowC ?_ | refine SW.skip ?_ | refine SW.exit ?_ | intro _ | refine And.intro (by omega) ?_) | simp (config := { maxSteps := 1000000 }) (disch := (first | omega | (simp only [go_sem]; try omega))) only [go_sem, Nat.reduceAdd, Nat.reduceEqDiff, Nat.reduceLeDiff, Nat.reduceMul, Nat.reduceLT, reduceIte, Int.reduceToNat, w64_id, cast_succ])
  by_cases h100 : l.length ≤ 100
  · have d1 : decide ((100 : Int) < (l.length : Int)) = false := decide_eq_false (by omega)
    repeat (first | (with_reducible first | refine SW.seq ?_ | refine SW.block ?_ | refine SW.rowC ?_ | refine SW.skip ?_ | refine SW.exit ?_ | intro _ | refine And.intro (by omega) ?_) | simp (config := { maxSteps := 1000000 }) (disch := (first | omega | (simp only [go_sem]; try omega))) only [go_sem, Nat.reduceAdd, Nat.reduceEqDiff, Nat.reduceLeDiff, Nat.reduceMul, Nat.reduceLT, reduceIte, Int.reduceToNat, w64_id, cast_succ, d1])
    refine (conI_ok I _ (ilS l) l rfl f_impl_ListText_c1 [] listText_call (fun x => !(decide (-999999999 ≤ x) && decide (x ≤ 999999999))) (fun x hx => listText_c1_fn x _)).mono ?_
    rintro r H' ⟨rfl, rfl⟩
    cases ha : l.any fun x => !(decide (-999999999 ≤ x) && decide (x ≤ 999999999))
    · have hin : inL l = true := by
        unfold inL
        rw [decide_eq_true h100, Bool.true_and, List.all_eq_true]
        intro x hx
        rw [List.any_eq_false] at ha
        simpa using ha x hx
      have hin2 : ∀ x ∈ l, -999999999 ≤ x ∧ x ≤ 999999999 := by
        intro x hx
        unfold inL at hin
        simp only [Bool.and_eq_true, List.all_eq_true, decide_eq_true_eq] at hin
        exact hin.2 x hx
      unfold lText
      rw [if_pos hin]
      unfold ltx
      repeat (first | (with_reducible first | refine SW.seq ?_ | refine SW.block ?_ | refine SW.rowC ?_ | refine SW.skip ?_ | refine SW.exit ?_ | intro _ | refine And.intro (by omega) ?_) | simp (config := { maxSteps := 1000000 }) (disch := (first | omega | (simp only [go_sem]; try omega))) only [go_sem, Nat.reduceAdd, Nat.reduceEqDiff, Nat.reduceLeDiff, Nat.reduceMul, Nat.reduceLT, reduceIte, Int.reduceToNat, w64_id, cast_succ])
      refine SW.condF rfl ?_
      by_cases h0 : l.length = 0
      · obtain rfl := List.length_eq_zero_iff.1 h0
        have d0 : decide (((0 : Nat) : Int) = 0) = true := rfl
        repeat (first | (with_reducible first | refine SW.seq ?_ | refine SW.block ?_ | refine SW.rowC ?_ | refine SW.skip ?_ | refine SW.exit ?_ | intro _ | refine And.intro (by omega) ?_) | simp (config := { maxSteps := 1000000 }) (disch := (first | omega | (simp only [go_sem]; try omega))) only [go_sem, Nat.reduceAdd, Nat.reduceEqDiff, Nat.reduceLeDiff, Nat.reduceMul, Nat.reduceLT, reduceIte, Int.reduceToNat, w64_id, cast_succ, d0])
        refine SW.condT rfl ?_
        repeat (first | (with_reducible first | refine SW.seq ?_ | refine SW.block ?_ | refine SW.rowC ?_ | refine SW.skip ?_ | refine SW.exit ?_ | intro _ | refine And.intro (by omega) ?_) | simp (config := { maxSteps := 1000000 }) (disch := (first | omega | (simp only [go_sem]; try omega))) only [go_sem, Nat.reduceAdd, Nat.reduceEqDiff, Nat.reduceLeDiff, Nat.reduceMul, Nat.reduceLT, reduceIte, Int.reduceToNat, w64_id, cast_succ])
        refine SW.ret ?_; (try simp only [go_sem]); (first | refine FunPost.one ?_ | refine FunPost.two ?_ | refine FunPost.three ?_); (try simp (config := { maxSteps := 1000000 }) (disch := (first | omega | (simp only [go_sem]; try omega))) only [go_sem, Nat.reduceAdd, Nat.reduceEqDiff, Nat.reduceLeDiff, Nat.reduceMul, Nat.reduceLT, reduceIte, Int.reduceToNat, w64_id, cast_succ]); (first | (with_reducible refine GR.drop ?_ ?_; (simp only [go_sem, and_self, and_true, true_and, implies_true, List.take_succ_cons, List.take_zero])) | refine GR.of ?_); refine ⟨?_, rfl⟩; (try with_reducible rfl)
      · have d0 : decide ((l.length : Int) = 0) = false := decide_eq_false (by omega)
        rw [if_neg (fun h => h0 (by rw [h]; rfl))]
        repeat (first | (with_reducible first | refine SW.seq ?_ | refine SW.block ?_ | refine SW.rowC ?_ | refine SW.skip ?_ | refine SW.exit ?_ | intro _ | refine And.intro (by omega) ?_) | simp (config := { maxSteps := 1000000 }) (disch := (first | omega | (simp only [go_sem]; try omega))) only [go_sem, Nat.reduceAdd, Nat.reduceEqDiff, Nat.reduceLeDiff, Nat.reduceMul, Nat.reduceLT, reduceIte, Int.reduceToNat, w64_id, cast_succ, d0])
        refine SW.condF rfl ?_
        repeat (first | (with_reducible first | refine SW.seq ?_ | refine SW.block ?_ | refine SW.rowC ?_ | refine SW.skip ?_ | refine SW.exit ?_ | intro _ | refine And.intro (by omega) ?_) | simp (config := { maxSteps := 1000000 }) (disch := (first | omega | (simp only [go_sem]; try omega))) only [go_sem, Nat.reduceAdd, Nat.reduceEqDiff, Nat.reduceLeDiff, Nat.reduceMul, Nat.reduceLT, reduceIte, Int.reduceToNat, w64_id, cast_succ])
        refine SW.loopE (fun E0 H0 q E' H1 => ∃ (pre post : List Int) (v : AV), l = pre ++ post ∧ q = post.length ∧ E' = aput (aput E0 3 v) 18 (I pre.length) ∧ GrowF H1 H'.length 9 1 v pre.length ((pre.map Lib.itoa).map Tx) ∧ H'.length ≤ H1.length ∧ ∀ j, j < H'.length → H1[j]? = H'[j]?) l.length ⟨[], l, nilS, rfl, rfl, rfl, .inl ⟨rfl, rfl, rfl⟩, Nat.le_refl _, fun _ _ => rfl⟩ ?_
        rintro q E' H1 ⟨pre, post, v, hq, rfl, rfl, hg, hl1, hk1⟩
        have hpl : pre.length ≤ 100 := by rw [hq] at h100; simp at h100; omega
        simp (config := { maxSteps := 1000000 }) (disch := (first | omega | (simp only [go_sem]; try omega))) only [go_sem, Nat.reduceAdd, Nat.reduceEqDiff, Nat.reduceLeDiff, Nat.reduceMul, Nat.reduceLT, reduceIte, Int.reduceToNat, w64_id, cast_succ]
        repeat (first | (with_reducible first | refine SW.seq ?_ | refine SW.block ?_ | refine SW.rowC ?_ | refine SW.skip ?_ | refine SW.exit ?_ | intro _ | refine And.intro (by omega) ?_) | simp (config := { maxSteps := 1000000 }) (disch := (first | omega | (simp only [go_sem]; try omega))) only [go_sem, Nat.reduceAdd, Nat.reduceEqDiff, Nat.reduceLeDiff, Nat.reduceMul, Nat.reduceLT, reduceIte, Int.reduceToNat, w64_id, cast_succ])
        (first | refine SW.condD rfl (fun h2 => ?_) (fun h2 => ?_) | refine SW.condN rfl (fun h2 => ?_) (fun h2 => ?_) | refine SW.condNB rfl (fun h2 => ?_) (fun h2 => ?_) | refine SW.condB rfl (fun h2 => ?_) (fun h2 => ?_))
        · obtain ⟨x, post, rfl, hgx, -⟩ := consOf (d := 0) hq (by omega)
          have hx := hin2 x (by rw [hq]; simp)
          have hd := decimal_fn x (by omega) (by omega)
          repeat (first | (with_reducible first | refine SW.seq ?_ | refine SW.block ?_ | refine SW.rowC ?_ | refine SW.skip ?_ | refine SW.exit ?_ | refine PFn.use (hd) ?_ | refine PFn.useq (hd) ?_ | intro _ | refine And.intro (by omega) ?_) | simp (config := { maxSteps := 1000000 }) (disch := (first | omega | (simp only [go_sem]; try omega))) only [go_sem, Nat.reduceAdd, Nat.reduceEqDiff, Nat.reduceLeDiff, Nat.reduceMul, Nat.reduceLT, reduceIte, Int.reduceToNat, w64_id, cast_succ, hgx])
          refine GrowF.appX hg hl1 rfl (by simp; rfl) (by omega) (by omega) ?_
          intro v3 H3 d1 d2 d3
          repeat (first | (with_reducible first | refine SW.seq ?_ | refine SW.block ?_ | refine SW.rowC ?_ | refine SW.skip ?_ | refine SW.exit ?_ | intro _ | refine And.intro (by omega) ?_) | simp (config := { maxSteps := 1000000 }) (disch := (first | omega | (simp only [go_sem]; try omega))) only [go_sem, Nat.reduceAdd, Nat.reduceEqDiff, Nat.reduceLeDiff, Nat.reduceMul, Nat.reduceLT, reduceIte, Int.reduceToNat, w64_id, cast_succ, d1.one.1, d1.one.2])
          refine SLoop.next post.length (by simp) ⟨pre ++ [x], post, v3, by rw [hq]; simp, rfl, ?_, ?_, by omega, fun j hj => (d3 j hj).trans (hk1 j hj)⟩
          · simp only [List.length_append, List.length_singleton]; rfl
          · rw [List.map_append, List.map_append, List.length_append]; exact d1
        · obtain ⟨rfl, rfl⟩ := nilOf hq (by omega)
          have hjl : (Lib.join (pre.map Lib.itoa) [44]).length ≤ 140737488355328 := by
            have := join_len (m := 19) (sep := 44) (xs := pre.map Lib.itoa) (fun p hp => by obtain ⟨n, hn, rfl⟩ := List.mem_map.1 hp; have := hin2 n hn; exact itoa_len (by omega))
            rw [List.length_map] at this
            omega
          have hj := (join_fn (pre.map Lib.itoa) [44] (by simp; omega) hjl).lend (H := H1) (.cons (hg.frozT (Nat.zero_le _)) (.cons (.old _ (.lit _)) .nil))
          repeat (first | (with_reducible first | refine SW.seq ?_ | refine SW.block ?_ | refine SW.rowC ?_ | refine SW.skip ?_ | refine SW.exit ?_ | intro _ | refine And.intro (by omega) ?_) | simp (config := { maxSteps := 1000000 }) (disch := (first | omega | (simp only [go_sem]; try omega))) only [go_sem, Nat.reduceAdd, Nat.reduceEqDiff, Nat.reduceLeDiff, Nat.reduceMul, Nat.reduceLT, reduceIte, Int.reduceToNat, w64_id, cast_succ])
          refine ACalls.fn hj ?_
          repeat (first | (with_reducible first | refine SW.seq ?_ | refine SW.block ?_ | refine SW.rowC ?_ | refine SW.skip ?_ | refine SW.exit ?_ | intro _ | refine And.intro (by omega) ?_) | simp (config := { maxSteps := 1000000 }) (disch := (first | omega | (simp only [go_sem]; try omega))) only [go_sem, Nat.reduceAdd, Nat.reduceEqDiff, Nat.reduceLeDiff, Nat.reduceMul, Nat.reduceLT, reduceIte, Int.reduceToNat, w64_id, cast_succ])
          refine SW.ret ⟨_, rfl, ?_⟩
          exact GR.frozP (prefix_of hl1 hk1) (.old _ (.lit _)) ⟨rfl, rfl⟩
    · have hin : inL l = false := by
        unfold inL
        rw [decide_eq_true h100, Bool.true_and]
        rw [List.any_eq_not_all_not, Bool.not_eq_true'] at ha
        simpa using ha
      unfold lText
      rw [hin, if_neg (by simp)]
      repeat (first | (with_reducible first | refine SW.seq ?_ | refine SW.block ?_ | refine SW.rowC ?_ | refine SW.skip ?_ | refine SW.exit ?_ | intro _ | refine And.intro (by omega) ?_) | simp (config := { maxSteps := 1000000 }) (disch := (first | omega | (simp only [go_sem]; try omega))) only [go_sem, Nat.reduceAdd, Nat.reduceEqDiff, Nat.reduceLeDiff, Nat.reduceMul, Nat.reduceLT, reduceIte, Int.reduceToNat, w64_id, cast_succ])
      refine SW.condT rfl ?_
      repeat (first | (with_reducible first | refine SW.seq ?_ | refine SW.block ?_ | refine SW.rowC ?_ | refine SW.skip ?_ | refine SW.exit ?_ | intro _ | refine And.intro (by omega) ?_) | simp (config := { maxSteps := 1000000 }) (disch := (first | omega | (simp only [go_sem]; try omega))) only [go_sem, Nat.reduceAdd, Nat.reduceEqDiff, Nat.reduceLeDiff, Nat.reduceMul, Nat.reduceLT, reduceIte, Int.reduceToNat, w64_id, cast_succ])
      refine SW.ret ?_; (try simp only [go_sem]); (first | refine FunPost.one ?_ | refine FunPost.two ?_ | refine FunPost.three ?_); (try simp (config := { maxSteps := 1000000 }) (disch := (first | omega | (simp only [go_sem]; try omega))) only [go_sem, Nat.reduceAdd, Nat.reduceEqDiff, Nat.reduceLeDiff, Nat.reduceMul, Nat.reduceLT, reduceIte, Int.reduceToNat, w64_id, cast_succ]); (first | (with_reducible refine GR.drop ?_ ?_; (simp only [go_sem, and_self, and_true, true_and, implies_true, List.take_succ_cons, List.take_zero])) | refine GR.of ?_); refine ⟨?_, rfl⟩; (try with_reducible rfl)
  · have d1 : decide ((100 : Int) < (l.length : Int)) = true := decide_eq_true (by omega)
    have hin : inL l = false := by unfold inL; rw [decide_eq_false h100]; rfl
    unfold lText
    rw [hin, if_neg (by simp)]
    repeat (first | (with_reducible first | refine SW.seq ?_ | refine SW.block ?_ | refine SW.rowC ?_ | refine SW.skip ?_ | refine SW.exit ?_ | intro _ | refine And.intro (by omega) ?_) | simp (config := { maxSteps := 1000000 }) (disch := (first | omega | (simp only [go_sem]; try omega))) only [go_sem, Nat.reduceAdd, Nat.reduceEqDiff, Nat.reduceLeDiff, Nat.reduceMul, Nat.reduceLT, reduceIte, Int.reduceToNat, w64_id, cast_succ, d1])
    refine SW.condT rfl ?_
    repeat (first | (with_reducible first | refine SW.seq ?_ | refine SW.block ?_ | refine SW.rowC ?_ | refine SW.skip ?_ | refine SW.exit ?_ | intro _ | refine And.intro (by omega) ?_) | simp (config := { maxSteps := 1000000 }) (disch := (first | omega | (simp only [go_sem]; try omega))) only [go_sem, Nat.reduceAdd, Nat.reduceEqDiff, Nat.reduceLeDiff, Nat.reduceMul, Nat.reduceLT, reduceIte, Int.reduceToNat, w64_id, cast_succ])
    refine SW.ret ?_; (try simp only [go_sem]); (first | refine FunPost.one ?_ | refine FunPost.two ?_ | refine FunPost.three ?_); (try simp (config := { maxSteps := 1000000 }) (disch := (first | omega | (simp only [go_sem]; try omega))) only [go_sem, Nat.reduceAdd, Nat.reduceEqDiff, Nat.reduceLeDiff, Nat.reduceMul, Nat.reduceLT, reduceIte, Int.reduceToNat, w64_id, cast_succ]); (first | (with_reducible refine GR.drop ?_ ?_; (simp only [go_sem, and_self, and_true, true_and, implies_true, List.take_succ_cons, List.take_zero])) | refine GR.of ?_); refine ⟨?_, rfl⟩; (try with_reducible rfl)
end Go.Proofs.YtdgcgckehihboaaDoor
