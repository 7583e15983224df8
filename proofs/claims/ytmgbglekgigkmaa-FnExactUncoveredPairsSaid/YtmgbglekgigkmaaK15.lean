/- Arrays: when one is valid. -/
import Derived.Test.YtmgbglekgigkmaaProg
import Derived.KernelRfl
import Derived.Test.YtmgbglekgigkmaaK7
set_option linter.unusedSimpArgs false
set_option linter.unusedVariables false
set_option maxHeartbeats 4000000
namespace Go.Proofs.Ytmgbglekgigkmaa
open Go.Av

/-! The abstract code of functions, printed by program and tied to the program by the kernel. -/
/-- loop.example/g00920/impl.ValidArray -/
abbrev f_impl_ValidArray : Nat := 40
def c_impl_ValidArray : SC :=
 .seq (.reg [
     ⟨(some 1), .box 52 (.tmp 0), none⟩,
     ⟨(some 2), .mv (.const (.bool false)), none⟩] [1])
 (.seq (.seq (.reg [
     ⟨(some 5), .faddr 0 (.tmp 1), none⟩,
     ⟨(some 6), .load 1 false (.tmp 5), none⟩,
     ⟨(some 7), .faddr 1 (.tmp 1), none⟩,
     ⟨(some 8), .load 1 false (.tmp 7), none⟩,
     ⟨(some 9), .call 89 [(.tmp 6), (.tmp 8)], none⟩,
     ⟨(some 10), .un .not (.tmp 9), none⟩,
     ⟨(some 11), .mv (.tmp 10), none⟩,
     ⟨(some 12), .faddr 2 (.tmp 1), (some (11, false))⟩,
     ⟨(some 13), .load 1 false (.tmp 12), (some (11, false))⟩,
     ⟨(some 14), .len (.tmp 13), (some (11, false))⟩,
     ⟨(some 15), .bin .gtr (.tmp 14) (.const (.int .i64 256)), (some (11, false))⟩,
     ⟨(some 16), .pick (.tmp 11) (.const (.bool true)) (.tmp 15), none⟩] [1, 16])
 (.cond (.tmp 16)
  (.seq (.reg [
      ⟨(some 2), .mv (.const (.bool false)), none⟩] [2])
  (.ret))
  (.skip)))
 (.seq (.seq (.reg [
     ⟨(some 17), .faddr 2 (.tmp 1), none⟩,
     ⟨(some 18), .load 1 false (.tmp 17), none⟩,
     ⟨(some 19), .len (.tmp 18), none⟩,
     ⟨(some 20), .mv (.const (.int .i64 0)), none⟩] [1, 18, 19, 20])
 (.block 0 (.loop [1, 18, 19, 20]
   (.seq (.reg [
       ⟨(some 21), .bin .lss (.tmp 20) (.tmp 19), none⟩] [1, 18, 19, 20, 21])
   (.seq (.cond (.tmp 21)
    (.skip)
    (.exit 0))
   (.seq (.block 1 (.seq (.reg [
        ⟨(some 22), .iaddr 1 (.tmp 18) (.tmp 20), none⟩,
        ⟨(some 23), .load 1 false (.tmp 22), none⟩,
        ⟨(some 4), .mv (.tmp 23), none⟩] [1, 4, 18, 19, 20])
    (.seq (.reg [
        ⟨(some 24), .mv (.tmp 4), none⟩,
        ⟨(some 25), .qcall 83 [(.tmp 24)], none⟩,
        ⟨(some 26), .faddr 1 (.tmp 1), none⟩,
        ⟨(some 27), .load 1 false (.tmp 26), none⟩,
        ⟨(some 28), .bin .neq (.tmp 25) (.tmp 27), none⟩,
        ⟨(some 29), .mv (.tmp 28), none⟩,
        ⟨(some 30), .mv (.tmp 4), (some (29, false))⟩,
        ⟨(some 31), .mkf 95 [(.tmp 1)], (some (29, false))⟩,
        ⟨(some 32), .qcall 94 [(.tmp 30), (.tmp 31)], (some (29, false))⟩,
        ⟨(some 33), .pick (.tmp 29) (.const (.bool true)) (.tmp 32), none⟩] [1, 18, 19, 20, 33])
    (.cond (.tmp 33)
     (.seq (.reg [
         ⟨(some 2), .mv (.const (.bool false)), none⟩] [2])
     (.ret))
     (.skip)))))
   (.reg [
       ⟨(some 34), .bin .add (.tmp 20) (.const (.int .i64 1)), none⟩,
       ⟨(some 20), .mv (.tmp 34), none⟩] [1, 18, 19, 20])))))))
 (.seq (.reg [
     ⟨(some 2), .mv (.const (.bool true)), none⟩] [2])
 (.ret))))
theorem s_impl_ValidArray : stripF Try.prog 40 [[1], [1, 16], [2], [1, 18, 19, 20], [1, 18, 19, 20], [1, 18, 19, 20, 21], [1, 4, 18, 19, 20], [1, 18, 19, 20, 33], [2], [1, 18, 19, 20], [2]] = some (c_impl_ValidArray, [.tmp 2], 35) := by kernel_rfl

/-- loop.example/g00920/impl.isShape -/
abbrev f_impl_isShape : Nat := 89
def c_impl_isShape : SC :=
 .seq (.reg [
     ⟨(some 4), .mv (.const (.bool false)), none⟩] [0, 1])
 (.seq (.reg [
     ⟨(some 5), .mv (.tmp 0), none⟩,
     ⟨(some 6), .call 59 [(.tmp 5), (.const (.int .i64 2)), (.const (.int .i64 16))], none⟩,
     ⟨(some 7), .mv (.tmp 6), none⟩,
     ⟨(some 8), .mv (.tmp 1), (some (7, true))⟩,
     ⟨(some 9), .call 59 [(.tmp 8), (.const (.int .i64 1)), (.const (.int .i64 8))], (some (7, true))⟩,
     ⟨(some 10), .pick (.tmp 7) (.tmp 9) (.const (.bool false)), none⟩,
     ⟨(some 4), .mv (.tmp 10), none⟩] [4])
 (.ret))
theorem s_impl_isShape : stripF Try.prog 89 [[0, 1], [4]] = some (c_impl_isShape, [.tmp 4], 11) := by kernel_rfl

/-- loop.example/g00920/impl.ValidArray$1 -/
abbrev f_impl_ValidArray_c1 : Nat := 95
def c_impl_ValidArray_c1 : SC :=
 .seq (.reg [
     ⟨(some 3), .mv (.const (.bool false)), none⟩] [0, 1])
 (.seq (.reg [
     ⟨(some 4), .mv (.tmp 0), none⟩,
     ⟨(some 5), .faddr 0 (.tmp 1), none⟩,
     ⟨(some 6), .load 1 false (.tmp 5), none⟩,
     ⟨(some 7), .bin .sub (.tmp 6) (.const (.int .i64 1)), none⟩,
     ⟨(some 8), .call 59 [(.tmp 4), (.const (.int .i64 0)), (.tmp 7)], none⟩,
     ⟨(some 9), .un .not (.tmp 8), none⟩,
     ⟨(some 3), .mv (.tmp 9), none⟩] [3])
 (.ret))
theorem s_impl_ValidArray_c1 : stripF Try.prog 95 [[0, 1], [3]] = some (c_impl_ValidArray_c1, [.tmp 3], 10) := by kernel_rfl

/-- loop.example/g00920/spec.l16Ok -/
abbrev f_spec_l16Ok : Nat := 109
def c_spec_l16Ok : SC :=
 .seq (.reg [
     ⟨(some 2), .mv (.const (.bool false)), none⟩] [0])
 (.seq (.seq (.reg [
     ⟨(some 5), .mv (.tmp 0), none⟩,
     ⟨(some 6), .nilc (.tmp 5), none⟩,
     ⟨(some 7), .faddr 0 (.tmp 6), none⟩,
     ⟨(some 8), .load 1 false (.tmp 7), none⟩,
     ⟨(some 9), .mv (.tmp 0), none⟩,
     ⟨(some 10), .nilc (.tmp 9), none⟩,
     ⟨(some 11), .faddr 1 (.tmp 10), none⟩,
     ⟨(some 12), .load 1 false (.tmp 11), none⟩,
     ⟨(some 13), .qcall 138 [(.tmp 8), (.tmp 12)], none⟩,
     ⟨(some 14), .un .not (.tmp 13), none⟩,
     ⟨(some 15), .mv (.tmp 14), none⟩,
     ⟨(some 16), .mv (.tmp 0), (some (15, false))⟩,
     ⟨(some 17), .nilc (.tmp 16), (some (15, false))⟩,
     ⟨(some 18), .faddr 2 (.tmp 17), (some (15, false))⟩,
     ⟨(some 19), .load 1 false (.tmp 18), (some (15, false))⟩,
     ⟨(some 20), .qlen (.tmp 19), (some (15, false))⟩,
     ⟨(some 21), .bin .gtr (.tmp 20) (.const (.int .i64 256)), (some (15, false))⟩,
     ⟨(some 22), .pick (.tmp 15) (.const (.bool true)) (.tmp 21), none⟩] [0, 22])
 (.cond (.tmp 22)
  (.seq (.reg [
      ⟨(some 2), .mv (.const (.bool false)), none⟩] [2])
  (.ret))
  (.skip)))
 (.seq (.seq (.reg [
     ⟨(some 3), .mv (.const (.int .i64 0)), none⟩] [0, 3])
 (.block 0 (.loop [0, 3]
   (.seq (.seq (.reg [
       ⟨(some 23), .mv (.tmp 3), none⟩,
       ⟨(some 24), .mv (.tmp 0), none⟩,
       ⟨(some 25), .nilc (.tmp 24), none⟩,
       ⟨(some 26), .faddr 2 (.tmp 25), none⟩,
       ⟨(some 27), .load 1 false (.tmp 26), none⟩,
       ⟨(some 28), .len (.tmp 27), none⟩,
       ⟨(some 29), .bin .lss (.tmp 23) (.tmp 28), none⟩] [0, 3, 29])
   (.cond (.tmp 29)
    (.skip)
    (.exit 0)))
   (.seq (.block 1 (.seq (.seq (.reg [
        ⟨(some 32), .mv (.tmp 0), none⟩,
        ⟨(some 33), .nilc (.tmp 32), none⟩,
        ⟨(some 34), .faddr 2 (.tmp 33), none⟩,
        ⟨(some 35), .load 1 false (.tmp 34), none⟩,
        ⟨(some 36), .mv (.tmp 3), none⟩,
        ⟨(some 37), .iaddr 1 (.tmp 35) (.tmp 36), none⟩,
        ⟨(some 38), .load 1 false (.tmp 37), none⟩,
        ⟨(some 39), .qlen (.tmp 38), none⟩,
        ⟨(some 40), .mv (.tmp 0), none⟩,
        ⟨(some 41), .nilc (.tmp 40), none⟩,
        ⟨(some 42), .faddr 1 (.tmp 41), none⟩,
        ⟨(some 43), .load 1 false (.tmp 42), none⟩,
        ⟨(some 44), .bin .neq (.tmp 39) (.tmp 43), none⟩] [0, 3, 44])
    (.cond (.tmp 44)
     (.seq (.reg [
         ⟨(some 2), .mv (.const (.bool false)), none⟩] [2])
     (.ret))
     (.skip)))
    (.seq (.reg [
        ⟨(some 4), .mv (.const (.int .i64 0)), none⟩] [0, 3, 4])
    (.block 2 (.loop [0, 3, 4]
      (.seq (.seq (.reg [
          ⟨(some 45), .mv (.tmp 4), none⟩,
          ⟨(some 46), .mv (.tmp 0), none⟩,
          ⟨(some 47), .nilc (.tmp 46), none⟩,
          ⟨(some 48), .faddr 2 (.tmp 47), none⟩,
          ⟨(some 49), .load 1 false (.tmp 48), none⟩,
          ⟨(some 50), .mv (.tmp 3), none⟩,
          ⟨(some 51), .iaddr 1 (.tmp 49) (.tmp 50), none⟩,
          ⟨(some 52), .load 1 false (.tmp 51), none⟩,
          ⟨(some 53), .len (.tmp 52), none⟩,
          ⟨(some 54), .bin .lss (.tmp 45) (.tmp 53), none⟩] [0, 3, 4, 54])
      (.cond (.tmp 54)
       (.skip)
       (.exit 2)))
      (.seq (.block 3 (.seq (.reg [
           ⟨(some 57), .mv (.tmp 0), none⟩,
           ⟨(some 58), .nilc (.tmp 57), none⟩,
           ⟨(some 59), .faddr 2 (.tmp 58), none⟩,
           ⟨(some 60), .load 1 false (.tmp 59), none⟩,
           ⟨(some 61), .mv (.tmp 3), none⟩,
           ⟨(some 62), .iaddr 1 (.tmp 60) (.tmp 61), none⟩,
           ⟨(some 63), .load 1 false (.tmp 62), none⟩,
           ⟨(some 64), .mv (.tmp 4), none⟩,
           ⟨(some 65), .iaddr 1 (.tmp 63) (.tmp 64), none⟩,
           ⟨(some 66), .load 1 false (.tmp 65), none⟩,
           ⟨(some 67), .mv (.tmp 0), none⟩,
           ⟨(some 68), .nilc (.tmp 67), none⟩,
           ⟨(some 69), .faddr 0 (.tmp 68), none⟩,
           ⟨(some 70), .load 1 false (.tmp 69), none⟩,
           ⟨(some 71), .bin .sub (.tmp 70) (.const (.int .i64 1)), none⟩,
           ⟨(some 72), .qcall 57 [(.tmp 66), (.const (.int .i64 0)), (.tmp 71)], none⟩,
           ⟨(some 73), .un .not (.tmp 72), none⟩] [0, 3, 4, 73])
       (.cond (.tmp 73)
        (.seq (.reg [
            ⟨(some 2), .mv (.const (.bool false)), none⟩] [2])
        (.ret))
        (.skip))))
      (.reg [
          ⟨(some 55), .mv (.tmp 4), none⟩,
          ⟨(some 56), .bin .add (.tmp 55) (.const (.int .i64 1)), none⟩,
          ⟨(some 4), .mv (.tmp 56), none⟩] [0, 3, 4]))))))))
   (.reg [
       ⟨(some 30), .mv (.tmp 3), none⟩,
       ⟨(some 31), .bin .add (.tmp 30) (.const (.int .i64 1)), none⟩,
       ⟨(some 3), .mv (.tmp 31), none⟩] [0, 3]))))))
 (.seq (.reg [
     ⟨(some 2), .mv (.const (.bool true)), none⟩] [2])
 (.ret))))
theorem s_spec_l16Ok : stripF Try.prog 109 [[0], [0, 22], [2], [0, 3], [0, 3], [0, 3, 29], [0, 3, 44], [2], [0, 3, 4], [0, 3, 4], [0, 3, 4, 54], [0, 3, 4, 73], [2], [0, 3, 4], [0, 3], [2]] = some (c_spec_l16Ok, [.tmp 2], 74) := by kernel_rfl

/-- loop.example/g00920/spec.l16Shape -/
abbrev f_spec_l16Shape : Nat := 138
def c_spec_l16Shape : SC :=
 .seq (.reg [
     ⟨(some 4), .mv (.const (.bool false)), none⟩] [0, 1])
 (.seq (.reg [
     ⟨(some 5), .mv (.tmp 0), none⟩,
     ⟨(some 6), .call 57 [(.tmp 5), (.const (.int .i64 2)), (.const (.int .i64 16))], none⟩,
     ⟨(some 7), .mv (.tmp 6), none⟩,
     ⟨(some 8), .mv (.tmp 1), (some (7, true))⟩,
     ⟨(some 9), .call 57 [(.tmp 8), (.const (.int .i64 1)), (.const (.int .i64 8))], (some (7, true))⟩,
     ⟨(some 10), .pick (.tmp 7) (.tmp 9) (.const (.bool false)), none⟩,
     ⟨(some 4), .mv (.tmp 10), none⟩] [4])
 (.ret))
theorem s_spec_l16Shape : stripF Try.prog 138 [[0, 1], [4]] = some (c_spec_l16Shape, [.tmp 4], 11) := by kernel_rfl


def shapeOk (l c : Int) : Bool := decide (2 ≤ l) && decide (l ≤ 16) && (decide (1 ≤ c) && decide (c ≤ 8))
def rowOk (l c : Int) (row : List Int) : Bool := decide ((row.length : Int) = c) && row.all fun x => decide (0 ≤ x) && decide (x ≤ l - 1)
def arrayOk (l c : Int) (rows : List (List Int)) : Bool := shapeOk l c && decide (rows.length ≤ 256) && rows.all (rowOk l c)

theorem shapeOk_iff {l c : Int} : shapeOk l c = true ↔ 2 ≤ l ∧ l ≤ 16 ∧ 1 ≤ c ∧ c ≤ 8 := by simp [shapeOk, and_assoc]

theorem isShape_fn (l c : Int) : PFn Try.prog f_impl_isShape [I l, I c] (Bv (shapeOk l c)) := by
  intro H; refine ACalls.introB s_impl_isShape (by simp) ?_; intro hB hA; unfold c_impl_isShape; simp (config := { maxSteps := 1000000 }) (disch := (first | omega | (simp only [go_sem]; try omega))) only [go_sem, ↓GSplit_t, ↓GSplit_f, ↓GSplit_tf, ↓GSplit_ft, Nat.reduceAdd, Nat.reduceEqDiff, Nat.reduceLeDiff, Nat.reduceMul, Nat.reduceLT, reduceIte, Int.reduceToNat, bne_self_eq_false, beq_self_eq_true, w64_id, cast_succ, Bool.false_eq_true, Bool.and_true, Bool.true_and, Bool.and_false, Bool.false_and, Bool.not_not]
  repeat (first | (with_reducible refine SW.seq ?_) | (with_reducible refine SW.block ?_) | (with_reducible refine SW.rowC ?_) | (with_reducible refine SW.skip ?_) | (with_reducible refine SW.exit ?_) | (with_reducible refine PFn.use (within_fn _ _ _) ?_) | (with_reducible refine PFn.useq (within_fn _ _ _) ?_) | (with_reducible intro _) | (with_reducible refine And.intro (by omega) ?_) | (simp (config := { maxSteps := 1000000 }) (disch := (first | omega | (simp only [go_sem]; try omega))) only [go_sem, ↓GSplit_t, ↓GSplit_f, ↓GSplit_tf, ↓GSplit_ft, Nat.reduceAdd, Nat.reduceEqDiff, Nat.reduceLeDiff, Nat.reduceMul, Nat.reduceLT, reduceIte, Int.reduceToNat, bne_self_eq_false, beq_self_eq_true, w64_id, cast_succ, Bool.false_eq_true, Bool.and_true, Bool.true_and, Bool.and_false, Bool.false_and, Bool.not_not]))
  by_cases h : (decide (2 ≤ l) && decide (l ≤ 16)) = true
  · repeat (first | (with_reducible refine SW.seq ?_) | (with_reducible refine SW.block ?_) | (with_reducible refine SW.rowC ?_) | (with_reducible refine SW.skip ?_) | (with_reducible refine SW.exit ?_) | (with_reducible refine PFn.use (within_fn _ _ _) ?_) | (with_reducible refine PFn.useq (within_fn _ _ _) ?_) | (with_reducible intro _) | (with_reducible refine And.intro (by omega) ?_) | (simp (config := { maxSteps := 1000000 }) (disch := (first | omega | (simp only [go_sem]; try omega))) only [go_sem, ↓GSplit_t, ↓GSplit_f, ↓GSplit_tf, ↓GSplit_ft, Nat.reduceAdd, Nat.reduceEqDiff, Nat.reduceLeDiff, Nat.reduceMul, Nat.reduceLT, reduceIte, Int.reduceToNat, bne_self_eq_false, beq_self_eq_true, w64_id, cast_succ, Bool.false_eq_true, Bool.and_true, Bool.true_and, Bool.and_false, Bool.false_and, Bool.not_not, h]))
    refine SW.ret ?_; (try simp only [go_sem]); (first | refine FunPost.one ?_ | refine FunPost.two ?_ | refine FunPost.three ?_); (try simp (config := { maxSteps := 1000000 }) (disch := (first | omega | (simp only [go_sem]; try omega))) only [go_sem, ↓GSplit_t, ↓GSplit_f, ↓GSplit_tf, ↓GSplit_ft, Nat.reduceAdd, Nat.reduceEqDiff, Nat.reduceLeDiff, Nat.reduceMul, Nat.reduceLT, reduceIte, Int.reduceToNat, bne_self_eq_false, beq_self_eq_true, w64_id, cast_succ, Bool.false_eq_true, Bool.and_true, Bool.true_and, Bool.and_false, Bool.false_and, Bool.not_not]); (first | (with_reducible refine GR.drop ?_ ?_; (simp only [and_self, and_true, true_and, implies_true, Bel_lit, Bel_I, Bel_Bv, Bel_nil, Bel_junk, Bel_nm, Bel_pc, Bel_il, Bel_agg, Bel_tup, Bel_fn, Bel_el, all_mapI, all_mapB, all_mapS, all_nilB, all_consB, EB_nil, EB_cons, BB_nil, BB_cons, Bel_ilS, Bel_ilSS, Bel_ilB, List.getElem?_cons_zero, List.take_succ_cons, List.take_zero, keep_nil, keep_cons])) | refine GR.of ?_); refine ⟨?_, rfl⟩; (try with_reducible rfl)
    simp [shapeOk, h]
  · repeat (first | (with_reducible refine SW.seq ?_) | (with_reducible refine SW.block ?_) | (with_reducible refine SW.rowC ?_) | (with_reducible refine SW.skip ?_) | (with_reducible refine SW.exit ?_) | (with_reducible refine PFn.use (within_fn _ _ _) ?_) | (with_reducible refine PFn.useq (within_fn _ _ _) ?_) | (with_reducible intro _) | (with_reducible refine And.intro (by omega) ?_) | (simp (config := { maxSteps := 1000000 }) (disch := (first | omega | (simp only [go_sem]; try omega))) only [go_sem, ↓GSplit_t, ↓GSplit_f, ↓GSplit_tf, ↓GSplit_ft, Nat.reduceAdd, Nat.reduceEqDiff, Nat.reduceLeDiff, Nat.reduceMul, Nat.reduceLT, reduceIte, Int.reduceToNat, bne_self_eq_false, beq_self_eq_true, w64_id, cast_succ, Bool.false_eq_true, Bool.and_true, Bool.true_and, Bool.and_false, Bool.false_and, Bool.not_not, h]))
    refine SW.ret ?_; (try simp only [go_sem]); (first | refine FunPost.one ?_ | refine FunPost.two ?_ | refine FunPost.three ?_); (try simp (config := { maxSteps := 1000000 }) (disch := (first | omega | (simp only [go_sem]; try omega))) only [go_sem, ↓GSplit_t, ↓GSplit_f, ↓GSplit_tf, ↓GSplit_ft, Nat.reduceAdd, Nat.reduceEqDiff, Nat.reduceLeDiff, Nat.reduceMul, Nat.reduceLT, reduceIte, Int.reduceToNat, bne_self_eq_false, beq_self_eq_true, w64_id, cast_succ, Bool.false_eq_true, Bool.and_true, Bool.true_and, Bool.and_false, Bool.false_and, Bool.not_not]); (first | (with_reducible refine GR.drop ?_ ?_; (simp only [and_self, and_true, true_and, implies_true, Bel_lit, Bel_I, Bel_Bv, Bel_nil, Bel_junk, Bel_nm, Bel_pc, Bel_il, Bel_agg, Bel_tup, Bel_fn, Bel_el, all_mapI, all_mapB, all_mapS, all_nilB, all_consB, EB_nil, EB_cons, BB_nil, BB_cons, Bel_ilS, Bel_ilSS, Bel_ilB, List.getElem?_cons_zero, List.take_succ_cons, List.take_zero, keep_nil, keep_cons])) | refine GR.of ?_); refine ⟨?_, rfl⟩; (try with_reducible rfl)
    simp [shapeOk, h]
theorem l16Shape_fn (l c : Int) : PFn Try.prog f_spec_l16Shape [I l, I c] (Bv (shapeOk l c)) := by
  intro H; refine ACalls.introB s_spec_l16Shape (by simp) ?_; intro hB hA; unfold c_spec_l16Shape; simp (config := { maxSteps := 1000000 }) (disch := (first | omega | (simp only [go_sem]; try omega))) only [go_sem, ↓GSplit_t, ↓GSplit_f, ↓GSplit_tf, ↓GSplit_ft, Nat.reduceAdd, Nat.reduceEqDiff, Nat.reduceLeDiff, Nat.reduceMul, Nat.reduceLT, reduceIte, Int.reduceToNat, bne_self_eq_false, beq_self_eq_true, w64_id, cast_succ, Bool.false_eq_true, Bool.and_true, Bool.true_and, Bool.and_false, Bool.false_and, Bool.not_not]
  repeat (first | (with_reducible refine SW.seq ?_) | (with_reducible refine SW.block ?_) | (with_reducible refine SW.rowC ?_) | (with_reducible refine SW.skip ?_) | (with_reducible refine SW.exit ?_) | (with_reducible refine PFn.use (l00In_fn _ _ _) ?_) | (with_reducible refine PFn.useq (l00In_fn _ _ _) ?_) | (with_reducible intro _) | (with_reducible refine And.intro (by omega) ?_) | (simp (config := { maxSteps := 1000000 }) (disch := (first | omega | (simp only [go_sem]; try omega))) only [go_sem, ↓GSplit_t, ↓GSplit_f, ↓GSplit_tf, ↓GSplit_ft, Nat.reduceAdd, Nat.reduceEqDiff, Nat.reduceLeDiff, Nat.reduceMul, Nat.reduceLT, reduceIte, Int.reduceToNat, bne_self_eq_false, beq_self_eq_true, w64_id, cast_succ, Bool.false_eq_true, Bool.and_true, Bool.true_and, Bool.and_false, Bool.false_and, Bool.not_not]))
  by_cases h : (decide (2 ≤ l) && decide (l ≤ 16)) = true
  · repeat (first | (with_reducible refine SW.seq ?_) | (with_reducible refine SW.block ?_) | (with_reducible refine SW.rowC ?_) | (with_reducible refine SW.skip ?_) | (with_reducible refine SW.exit ?_) | (with_reducible refine PFn.use (l00In_fn _ _ _) ?_) | (with_reducible refine PFn.useq (l00In_fn _ _ _) ?_) | (with_reducible intro _) | (with_reducible refine And.intro (by omega) ?_) | (simp (config := { maxSteps := 1000000 }) (disch := (first | omega | (simp only [go_sem]; try omega))) only [go_sem, ↓GSplit_t, ↓GSplit_f, ↓GSplit_tf, ↓GSplit_ft, Nat.reduceAdd, Nat.reduceEqDiff, Nat.reduceLeDiff, Nat.reduceMul, Nat.reduceLT, reduceIte, Int.reduceToNat, bne_self_eq_false, beq_self_eq_true, w64_id, cast_succ, Bool.false_eq_true, Bool.and_true, Bool.true_and, Bool.and_false, Bool.false_and, Bool.not_not, h]))
    refine SW.ret ?_; (try simp only [go_sem]); (first | refine FunPost.one ?_ | refine FunPost.two ?_ | refine FunPost.three ?_); (try simp (config := { maxSteps := 1000000 }) (disch := (first | omega | (simp only [go_sem]; try omega))) only [go_sem, ↓GSplit_t, ↓GSplit_f, ↓GSplit_tf, ↓GSplit_ft, Nat.reduceAdd, Nat.reduceEqDiff, Nat.reduceLeDiff, Nat.reduceMul, Nat.reduceLT, reduceIte, Int.reduceToNat, bne_self_eq_false, beq_self_eq_true, w64_id, cast_succ, Bool.false_eq_true, Bool.and_true, Bool.true_and, Bool.and_false, Bool.false_and, Bool.not_not]); (first | (with_reducible refine GR.drop ?_ ?_; (simp only [and_self, and_true, true_and, implies_true, Bel_lit, Bel_I, Bel_Bv, Bel_nil, Bel_junk, Bel_nm, Bel_pc, Bel_il, Bel_agg, Bel_tup, Bel_fn, Bel_el, all_mapI, all_mapB, all_mapS, all_nilB, all_consB, EB_nil, EB_cons, BB_nil, BB_cons, Bel_ilS, Bel_ilSS, Bel_ilB, List.getElem?_cons_zero, List.take_succ_cons, List.take_zero, keep_nil, keep_cons])) | refine GR.of ?_); refine ⟨?_, rfl⟩; (try with_reducible rfl)
    simp [shapeOk, h]
  · repeat (first | (with_reducible refine SW.seq ?_) | (with_reducible refine SW.block ?_) | (with_reducible refine SW.rowC ?_) | (with_reducible refine SW.skip ?_) | (with_reducible refine SW.exit ?_) | (with_reducible refine PFn.use (l00In_fn _ _ _) ?_) | (with_reducible refine PFn.useq (l00In_fn _ _ _) ?_) | (with_reducible intro _) | (with_reducible refine And.intro (by omega) ?_) | (simp (config := { maxSteps := 1000000 }) (disch := (first | omega | (simp only [go_sem]; try omega))) only [go_sem, ↓GSplit_t, ↓GSplit_f, ↓GSplit_tf, ↓GSplit_ft, Nat.reduceAdd, Nat.reduceEqDiff, Nat.reduceLeDiff, Nat.reduceMul, Nat.reduceLT, reduceIte, Int.reduceToNat, bne_self_eq_false, beq_self_eq_true, w64_id, cast_succ, Bool.false_eq_true, Bool.and_true, Bool.true_and, Bool.and_false, Bool.false_and, Bool.not_not, h]))
    refine SW.ret ?_; (try simp only [go_sem]); (first | refine FunPost.one ?_ | refine FunPost.two ?_ | refine FunPost.three ?_); (try simp (config := { maxSteps := 1000000 }) (disch := (first | omega | (simp only [go_sem]; try omega))) only [go_sem, ↓GSplit_t, ↓GSplit_f, ↓GSplit_tf, ↓GSplit_ft, Nat.reduceAdd, Nat.reduceEqDiff, Nat.reduceLeDiff, Nat.reduceMul, Nat.reduceLT, reduceIte, Int.reduceToNat, bne_self_eq_false, beq_self_eq_true, w64_id, cast_succ, Bool.false_eq_true, Bool.and_true, Bool.true_and, Bool.and_false, Bool.false_and, Bool.not_not]); (first | (with_reducible refine GR.drop ?_ ?_; (simp only [and_self, and_true, true_and, implies_true, Bel_lit, Bel_I, Bel_Bv, Bel_nil, Bel_junk, Bel_nm, Bel_pc, Bel_il, Bel_agg, Bel_tup, Bel_fn, Bel_el, all_mapI, all_mapB, all_mapS, all_nilB, all_consB, EB_nil, EB_cons, BB_nil, BB_cons, Bel_ilS, Bel_ilSS, Bel_ilB, List.getElem?_cons_zero, List.take_succ_cons, List.take_zero, keep_nil, keep_cons])) | refine GR.of ?_); refine ⟨?_, rfl⟩; (try with_reducible rfl)
    simp [shapeOk, h]

abbrev tyArr : Nat := 52
theorem ValidArray_c1_ok (H : List Blk) (p : Nat) (l c : Int) (a : AV) (x : Int) (hl : 2 ≤ l ∧ l ≤ 16) (hp : H[p]? = some ⟨0, 52, 1, [I l, I c, a]⟩) :
    ACalls Try.prog f_impl_ValidArray_c1 [I x, .pc p 0 0] H (fun r H' => r = Bv (!(decide (0 ≤ x) && decide (x ≤ l - 1))) ∧ H' = H) := by
  refine ACalls.introB s_impl_ValidArray_c1 (by simp) ?_; intro hB hA; unfold c_impl_ValidArray_c1; simp (config := { maxSteps := 1000000 }) (disch := (first | omega | (simp only [go_sem]; try omega))) only [go_sem, ↓GSplit_t, ↓GSplit_f, ↓GSplit_tf, ↓GSplit_ft, Nat.reduceAdd, Nat.reduceEqDiff, Nat.reduceLeDiff, Nat.reduceMul, Nat.reduceLT, reduceIte, Int.reduceToNat, bne_self_eq_false, beq_self_eq_true, w64_id, cast_succ, Bool.false_eq_true, Bool.and_true, Bool.true_and, Bool.and_false, Bool.false_and, Bool.not_not]
  repeat (first | (with_reducible refine SW.seq ?_) | (with_reducible refine SW.block ?_) | (with_reducible refine SW.rowC ?_) | (with_reducible refine SW.skip ?_) | (with_reducible refine SW.exit ?_) | (with_reducible refine PFn.use (within_fn _ _ _) ?_) | (with_reducible refine PFn.useq (within_fn _ _ _) ?_) | (with_reducible intro _) | (with_reducible refine And.intro (by omega) ?_) | (simp (config := { maxSteps := 1000000 }) (disch := (first | omega | (simp only [go_sem]; try omega))) only [go_sem, ↓GSplit_t, ↓GSplit_f, ↓GSplit_tf, ↓GSplit_ft, Nat.reduceAdd, Nat.reduceEqDiff, Nat.reduceLeDiff, Nat.reduceMul, Nat.reduceLT, reduceIte, Int.reduceToNat, bne_self_eq_false, beq_self_eq_true, w64_id, cast_succ, Bool.false_eq_true, Bool.and_true, Bool.true_and, Bool.and_false, Bool.false_and, Bool.not_not, pc_ld hp, pc_alive hp]))
  refine SW.ret ?_; (try simp only [go_sem]); (first | refine FunPost.one ?_ | refine FunPost.two ?_ | refine FunPost.three ?_); (try simp (config := { maxSteps := 1000000 }) (disch := (first | omega | (simp only [go_sem]; try omega))) only [go_sem, ↓GSplit_t, ↓GSplit_f, ↓GSplit_tf, ↓GSplit_ft, Nat.reduceAdd, Nat.reduceEqDiff, Nat.reduceLeDiff, Nat.reduceMul, Nat.reduceLT, reduceIte, Int.reduceToNat, bne_self_eq_false, beq_self_eq_true, w64_id, cast_succ, Bool.false_eq_true, Bool.and_true, Bool.true_and, Bool.and_false, Bool.false_and, Bool.not_not]); (first | (with_reducible refine GR.drop ?_ ?_; (simp only [and_self, and_true, true_and, implies_true, Bel_lit, Bel_I, Bel_Bv, Bel_nil, Bel_junk, Bel_nm, Bel_pc, Bel_il, Bel_agg, Bel_tup, Bel_fn, Bel_el, all_mapI, all_mapB, all_mapS, all_nilB, all_consB, EB_nil, EB_cons, BB_nil, BB_cons, Bel_ilS, Bel_ilSS, Bel_ilB, List.getElem?_cons_zero, List.take_succ_cons, List.take_zero, keep_nil, keep_cons])) | refine GR.of ?_); refine ⟨?_, rfl⟩; (try with_reducible rfl)

theorem ValidArray_fn (l c : Int) (rows : List (List Int)) : PFn Try.prog f_impl_ValidArray [.agg [I l, I c, ilSS rows]] (Bv (arrayOk l c rows)) := by
  intro H; refine ACalls.introB s_impl_ValidArray (by simp) ?_; intro hB hA; unfold c_impl_ValidArray; simp (config := { maxSteps := 1000000 }) (disch := (first | omega | (simp only [go_sem]; try omega))) only [go_sem, ↓GSplit_t, ↓GSplit_f, ↓GSplit_tf, ↓GSplit_ft, Nat.reduceAdd, Nat.reduceEqDiff, Nat.reduceLeDiff, Nat.reduceMul, Nat.reduceLT, reduceIte, Int.reduceToNat, bne_self_eq_false, beq_self_eq_true, w64_id, cast_succ, Bool.false_eq_true, Bool.and_true, Bool.true_and, Bool.and_false, Bool.false_and, Bool.not_not]
  cases hs : shapeOk l c with
  | false =>
    repeat (first | (with_reducible refine SW.seq ?_) | (with_reducible refine SW.block ?_) | (with_reducible refine SW.rowC ?_) | (with_reducible refine SW.skip ?_) | (with_reducible refine SW.exit ?_) | (with_reducible refine PFn.use (isShape_fn l c) ?_) | (with_reducible refine PFn.useq (isShape_fn l c) ?_) | (with_reducible intro _) | (with_reducible refine And.intro (by omega) ?_) | (simp (config := { maxSteps := 1000000 }) (disch := (first | omega | (simp only [go_sem]; try omega))) only [go_sem, ↓GSplit_t, ↓GSplit_f, ↓GSplit_tf, ↓GSplit_ft, Nat.reduceAdd, Nat.reduceEqDiff, Nat.reduceLeDiff, Nat.reduceMul, Nat.reduceLT, reduceIte, Int.reduceToNat, bne_self_eq_false, beq_self_eq_true, w64_id, cast_succ, Bool.false_eq_true, Bool.and_true, Bool.true_and, Bool.and_false, Bool.false_and, Bool.not_not, hs]))
    refine SW.condT rfl ?_
    repeat (first | (with_reducible refine SW.seq ?_) | (with_reducible refine SW.block ?_) | (with_reducible refine SW.rowC ?_) | (with_reducible refine SW.skip ?_) | (with_reducible refine SW.exit ?_) | (with_reducible intro _) | (with_reducible refine And.intro (by omega) ?_) | (simp (config := { maxSteps := 1000000 }) (disch := (first | omega | (simp only [go_sem]; try omega))) only [go_sem, ↓GSplit_t, ↓GSplit_f, ↓GSplit_tf, ↓GSplit_ft, Nat.reduceAdd, Nat.reduceEqDiff, Nat.reduceLeDiff, Nat.reduceMul, Nat.reduceLT, reduceIte, Int.reduceToNat, bne_self_eq_false, beq_self_eq_true, w64_id, cast_succ, Bool.false_eq_true, Bool.and_true, Bool.true_and, Bool.and_false, Bool.false_and, Bool.not_not]))
    refine SW.ret ?_; (try simp only [go_sem]); (first | refine FunPost.one ?_ | refine FunPost.two ?_ | refine FunPost.three ?_); (try simp (config := { maxSteps := 1000000 }) (disch := (first | omega | (simp only [go_sem]; try omega))) only [go_sem, ↓GSplit_t, ↓GSplit_f, ↓GSplit_tf, ↓GSplit_ft, Nat.reduceAdd, Nat.reduceEqDiff, Nat.reduceLeDiff, Nat.reduceMul, Nat.reduceLT, reduceIte, Int.reduceToNat, bne_self_eq_false, beq_self_eq_true, w64_id, cast_succ, Bool.false_eq_true, Bool.and_true, Bool.true_and, Bool.and_false, Bool.false_and, Bool.not_not]); (first | (with_reducible refine GR.drop ?_ ?_; (simp only [and_self, and_true, true_and, implies_true, Bel_lit, Bel_I, Bel_Bv, Bel_nil, Bel_junk, Bel_nm, Bel_pc, Bel_il, Bel_agg, Bel_tup, Bel_fn, Bel_el, all_mapI, all_mapB, all_mapS, all_nilB, all_consB, EB_nil, EB_cons, BB_nil, BB_cons, Bel_ilS, Bel_ilSS, Bel_ilB, List.getElem?_cons_zero, List.take_succ_cons, List.take_zero, keep_nil, keep_cons])) | refine GR.of ?_); refine ⟨?_, rfl⟩; (try with_reducible rfl)
    simp [arrayOk, hs]
  | true =>
    have hs2 := shapeOk_iff.1 hs
    repeat (first | (with_reducible refine SW.seq ?_) | (with_reducible refine SW.block ?_) | (with_reducible refine SW.rowC ?_) | (with_reducible refine SW.skip ?_) | (with_reducible refine SW.exit ?_) | (with_reducible refine PFn.use (isShape_fn l c) ?_) | (with_reducible refine PFn.useq (isShape_fn l c) ?_) | (with_reducible intro _) | (with_reducible refine And.intro (by omega) ?_) | (simp (config := { maxSteps := 1000000 }) (disch := (first | omega | (simp only [go_sem]; try omega))) only [go_sem, ↓GSplit_t, ↓GSplit_f, ↓GSplit_tf, ↓GSplit_ft, Nat.reduceAdd, Nat.reduceEqDiff, Nat.reduceLeDiff, Nat.reduceMul, Nat.reduceLT, reduceIte, Int.reduceToNat, bne_self_eq_false, beq_self_eq_true, w64_id, cast_succ, Bool.false_eq_true, Bool.and_true, Bool.true_and, Bool.and_false, Bool.false_and, Bool.not_not, hs]))
    (first | refine SW.condD rfl (fun h => ?_) (fun h => ?_) | refine SW.condN rfl (fun h => ?_) (fun h => ?_) | refine SW.condNB rfl (fun h => ?_) (fun h => ?_) | refine SW.condB rfl (fun h => ?_) (fun h => ?_))
    · repeat (first | (with_reducible refine SW.seq ?_) | (with_reducible refine SW.block ?_) | (with_reducible refine SW.rowC ?_) | (with_reducible refine SW.skip ?_) | (with_reducible refine SW.exit ?_) | (with_reducible intro _) | (with_reducible refine And.intro (by omega) ?_) | (simp (config := { maxSteps := 1000000 }) (disch := (first | omega | (simp only [go_sem]; try omega))) only [go_sem, ↓GSplit_t, ↓GSplit_f, ↓GSplit_tf, ↓GSplit_ft, Nat.reduceAdd, Nat.reduceEqDiff, Nat.reduceLeDiff, Nat.reduceMul, Nat.reduceLT, reduceIte, Int.reduceToNat, bne_self_eq_false, beq_self_eq_true, w64_id, cast_succ, Bool.false_eq_true, Bool.and_true, Bool.true_and, Bool.and_false, Bool.false_and, Bool.not_not]))
      refine SW.ret ?_; (try simp only [go_sem]); (first | refine FunPost.one ?_ | refine FunPost.two ?_ | refine FunPost.three ?_); (try simp (config := { maxSteps := 1000000 }) (disch := (first | omega | (simp only [go_sem]; try omega))) only [go_sem, ↓GSplit_t, ↓GSplit_f, ↓GSplit_tf, ↓GSplit_ft, Nat.reduceAdd, Nat.reduceEqDiff, Nat.reduceLeDiff, Nat.reduceMul, Nat.reduceLT, reduceIte, Int.reduceToNat, bne_self_eq_false, beq_self_eq_true, w64_id, cast_succ, Bool.false_eq_true, Bool.and_true, Bool.true_and, Bool.and_false, Bool.false_and, Bool.not_not]); (first | (with_reducible refine GR.drop ?_ ?_; (simp only [and_self, and_true, true_and, implies_true, Bel_lit, Bel_I, Bel_Bv, Bel_nil, Bel_junk, Bel_nm, Bel_pc, Bel_il, Bel_agg, Bel_tup, Bel_fn, Bel_el, all_mapI, all_mapB, all_mapS, all_nilB, all_consB, EB_nil, EB_cons, BB_nil, BB_cons, Bel_ilS, Bel_ilSS, Bel_ilB, List.getElem?_cons_zero, List.take_succ_cons, List.take_zero, keep_nil, keep_cons])) | refine GR.of ?_); refine ⟨?_, rfl⟩; (try with_reducible rfl)
      simp [arrayOk, show ¬ rows.length ≤ 256 by omega]
    · repeat (first | (with_reducible refine SW.seq ?_) | (with_reducible refine SW.block ?_) | (with_reducible refine SW.rowC ?_) | (with_reducible refine SW.skip ?_) | (with_reducible refine SW.exit ?_) | (with_reducible intro _) | (with_reducible refine And.intro (by omega) ?_) | (simp (config := { maxSteps := 1000000 }) (disch := (first | omega | (simp only [go_sem]; try omega))) only [go_sem, ↓GSplit_t, ↓GSplit_f, ↓GSplit_tf, ↓GSplit_ft, Nat.reduceAdd, Nat.reduceEqDiff, Nat.reduceLeDiff, Nat.reduceMul, Nat.reduceLT, reduceIte, Int.reduceToNat, bne_self_eq_false, beq_self_eq_true, w64_id, cast_succ, Bool.false_eq_true, Bool.and_true, Bool.true_and, Bool.and_false, Bool.false_and, Bool.not_not]))
      refine SW.loopE (fun E0 H0 q E' H' => ∃ (pre post : List (List Int)), rows = pre ++ post ∧ q = post.length ∧ E' = aput E0 20 (I pre.length) ∧ H' = H0 ∧ pre.all (rowOk l c) = true) rows.length ⟨[], rows, rfl, rfl, rfl, rfl, rfl⟩ ?_
      rintro q E' H' ⟨pre, post, hp, rfl, rfl, rfl, ha⟩
      simp (config := { maxSteps := 1000000 }) (disch := (first | omega | (simp only [go_sem]; try omega))) only [go_sem, ↓GSplit_t, ↓GSplit_f, ↓GSplit_tf, ↓GSplit_ft, Nat.reduceAdd, Nat.reduceEqDiff, Nat.reduceLeDiff, Nat.reduceMul, Nat.reduceLT, reduceIte, Int.reduceToNat, bne_self_eq_false, beq_self_eq_true, w64_id, cast_succ, Bool.false_eq_true, Bool.and_true, Bool.true_and, Bool.and_false, Bool.false_and, Bool.not_not]
      repeat (first | (with_reducible refine SW.seq ?_) | (with_reducible refine SW.block ?_) | (with_reducible refine SW.rowC ?_) | (with_reducible refine SW.skip ?_) | (with_reducible refine SW.exit ?_) | (with_reducible intro _) | (with_reducible refine And.intro (by omega) ?_) | (simp (config := { maxSteps := 1000000 }) (disch := (first | omega | (simp only [go_sem]; try omega))) only [go_sem, ↓GSplit_t, ↓GSplit_f, ↓GSplit_tf, ↓GSplit_ft, Nat.reduceAdd, Nat.reduceEqDiff, Nat.reduceLeDiff, Nat.reduceMul, Nat.reduceLT, reduceIte, Int.reduceToNat, bne_self_eq_false, beq_self_eq_true, w64_id, cast_succ, Bool.false_eq_true, Bool.and_true, Bool.true_and, Bool.and_false, Bool.false_and, Bool.not_not]))
      (first | refine SW.condD rfl (fun h3 => ?_) (fun h3 => ?_) | refine SW.condN rfl (fun h3 => ?_) (fun h3 => ?_) | refine SW.condNB rfl (fun h3 => ?_) (fun h3 => ?_) | refine SW.condB rfl (fun h3 => ?_) (fun h3 => ?_))
      · cases post with
        | nil => exfalso; simp at hp; subst hp; omega
        | cons x post =>
          have hg : rows.getD pre.length [] = x := by subst hp; simp
          by_cases hl : (x.length : Int) = c
          · repeat (first | (with_reducible refine SW.seq ?_) | (with_reducible refine SW.block ?_) | (with_reducible refine SW.rowC ?_) | (with_reducible refine SW.skip ?_) | (with_reducible refine SW.exit ?_) | (with_reducible refine PFn.use (size_fn _) ?_) | (with_reducible refine PFn.useq (size_fn _) ?_) | (with_reducible intro _) | (with_reducible refine And.intro (by omega) ?_) | (simp (config := { maxSteps := 1000000 }) (disch := (first | omega | (simp only [go_sem]; try omega))) only [go_sem, ↓GSplit_t, ↓GSplit_f, ↓GSplit_tf, ↓GSplit_ft, Nat.reduceAdd, Nat.reduceEqDiff, Nat.reduceLeDiff, Nat.reduceMul, Nat.reduceLT, reduceIte, Int.reduceToNat, bne_self_eq_false, beq_self_eq_true, w64_id, cast_succ, Bool.false_eq_true, Bool.and_true, Bool.true_and, Bool.and_false, Bool.false_and, Bool.not_not, hg, hl]))
            refine QcallW.of (fun ext => conS_ok I _ _ x rfl _ _ (by kernel_rfl) (fun y => !(decide (0 ≤ y) && decide (y ≤ l - 1))) (fun y _ => ValidArray_c1_ok _ H.length l c _ y ⟨hs2.1, hs2.2.1⟩ (by simp; rfl))) ?_
            have ex : x.any (fun y => !(decide (0 ≤ y) && decide (y ≤ l - 1))) = !rowOk l c x := by simp [rowOk, hl, List.any_eq_not_all_not]
            rw [ex]
            repeat (first | (with_reducible refine SW.seq ?_) | (with_reducible refine SW.block ?_) | (with_reducible refine SW.rowC ?_) | (with_reducible refine SW.skip ?_) | (with_reducible refine SW.exit ?_) | (with_reducible intro _) | (with_reducible refine And.intro (by omega) ?_) | (simp (config := { maxSteps := 1000000 }) (disch := (first | omega | (simp only [go_sem]; try omega))) only [go_sem, ↓GSplit_t, ↓GSplit_f, ↓GSplit_tf, ↓GSplit_ft, Nat.reduceAdd, Nat.reduceEqDiff, Nat.reduceLeDiff, Nat.reduceMul, Nat.reduceLT, reduceIte, Int.reduceToNat, bne_self_eq_false, beq_self_eq_true, w64_id, cast_succ, Bool.false_eq_true, Bool.and_true, Bool.true_and, Bool.and_false, Bool.false_and, Bool.not_not]))
            (first | refine SW.condD rfl (fun h4 => ?_) (fun h4 => ?_) | refine SW.condN rfl (fun h4 => ?_) (fun h4 => ?_) | refine SW.condNB rfl (fun h4 => ?_) (fun h4 => ?_) | refine SW.condB rfl (fun h4 => ?_) (fun h4 => ?_))
            · repeat (first | (with_reducible refine SW.seq ?_) | (with_reducible refine SW.block ?_) | (with_reducible refine SW.rowC ?_) | (with_reducible refine SW.skip ?_) | (with_reducible refine SW.exit ?_) | (with_reducible intro _) | (with_reducible refine And.intro (by omega) ?_) | (simp (config := { maxSteps := 1000000 }) (disch := (first | omega | (simp only [go_sem]; try omega))) only [go_sem, ↓GSplit_t, ↓GSplit_f, ↓GSplit_tf, ↓GSplit_ft, Nat.reduceAdd, Nat.reduceEqDiff, Nat.reduceLeDiff, Nat.reduceMul, Nat.reduceLT, reduceIte, Int.reduceToNat, bne_self_eq_false, beq_self_eq_true, w64_id, cast_succ, Bool.false_eq_true, Bool.and_true, Bool.true_and, Bool.and_false, Bool.false_and, Bool.not_not]))
              refine SW.ret ?_; (try simp only [go_sem]); (first | refine FunPost.one ?_ | refine FunPost.two ?_ | refine FunPost.three ?_); (try simp (config := { maxSteps := 1000000 }) (disch := (first | omega | (simp only [go_sem]; try omega))) only [go_sem, ↓GSplit_t, ↓GSplit_f, ↓GSplit_tf, ↓GSplit_ft, Nat.reduceAdd, Nat.reduceEqDiff, Nat.reduceLeDiff, Nat.reduceMul, Nat.reduceLT, reduceIte, Int.reduceToNat, bne_self_eq_false, beq_self_eq_true, w64_id, cast_succ, Bool.false_eq_true, Bool.and_true, Bool.true_and, Bool.and_false, Bool.false_and, Bool.not_not]); (first | (with_reducible refine GR.drop ?_ ?_; (simp only [and_self, and_true, true_and, implies_true, Bel_lit, Bel_I, Bel_Bv, Bel_nil, Bel_junk, Bel_nm, Bel_pc, Bel_il, Bel_agg, Bel_tup, Bel_fn, Bel_el, all_mapI, all_mapB, all_mapS, all_nilB, all_consB, EB_nil, EB_cons, BB_nil, BB_cons, Bel_ilS, Bel_ilSS, Bel_ilB, List.getElem?_cons_zero, List.take_succ_cons, List.take_zero, keep_nil, keep_cons])) | refine GR.of ?_); refine ⟨?_, rfl⟩; (try with_reducible rfl)
              subst hp
              simp [arrayOk, h4]
            · repeat (first | (with_reducible refine SW.seq ?_) | (with_reducible refine SW.block ?_) | (with_reducible refine SW.rowC ?_) | (with_reducible refine SW.skip ?_) | (with_reducible refine SW.exit ?_) | (with_reducible intro _) | (with_reducible refine And.intro (by omega) ?_) | (simp (config := { maxSteps := 1000000 }) (disch := (first | omega | (simp only [go_sem]; try omega))) only [go_sem, ↓GSplit_t, ↓GSplit_f, ↓GSplit_tf, ↓GSplit_ft, Nat.reduceAdd, Nat.reduceEqDiff, Nat.reduceLeDiff, Nat.reduceMul, Nat.reduceLT, reduceIte, Int.reduceToNat, bne_self_eq_false, beq_self_eq_true, w64_id, cast_succ, Bool.false_eq_true, Bool.and_true, Bool.true_and, Bool.and_false, Bool.false_and, Bool.not_not]))
              refine SLoop.next post.length (by simp) ⟨pre ++ [x], post, by simp [hp], rfl, ?_, rfl, ?_⟩
              · simp [go_sem]
              · simp [ha, h4]
          · repeat (first | (with_reducible refine SW.seq ?_) | (with_reducible refine SW.block ?_) | (with_reducible refine SW.rowC ?_) | (with_reducible refine SW.skip ?_) | (with_reducible refine SW.exit ?_) | (with_reducible refine PFn.use (size_fn _) ?_) | (with_reducible refine PFn.useq (size_fn _) ?_) | (with_reducible intro _) | (with_reducible refine And.intro (by omega) ?_) | (simp (config := { maxSteps := 1000000 }) (disch := (first | omega | (simp only [go_sem]; try omega))) only [go_sem, ↓GSplit_t, ↓GSplit_f, ↓GSplit_tf, ↓GSplit_ft, Nat.reduceAdd, Nat.reduceEqDiff, Nat.reduceLeDiff, Nat.reduceMul, Nat.reduceLT, reduceIte, Int.reduceToNat, bne_self_eq_false, beq_self_eq_true, w64_id, cast_succ, Bool.false_eq_true, Bool.and_true, Bool.true_and, Bool.and_false, Bool.false_and, Bool.not_not, hg, hl]))
            refine SW.condT rfl ?_
            repeat (first | (with_reducible refine SW.seq ?_) | (with_reducible refine SW.block ?_) | (with_reducible refine SW.rowC ?_) | (with_reducible refine SW.skip ?_) | (with_reducible refine SW.exit ?_) | (with_reducible intro _) | (with_reducible refine And.intro (by omega) ?_) | (simp (config := { maxSteps := 1000000 }) (disch := (first | omega | (simp only [go_sem]; try omega))) only [go_sem, ↓GSplit_t, ↓GSplit_f, ↓GSplit_tf, ↓GSplit_ft, Nat.reduceAdd, Nat.reduceEqDiff, Nat.reduceLeDiff, Nat.reduceMul, Nat.reduceLT, reduceIte, Int.reduceToNat, bne_self_eq_false, beq_self_eq_true, w64_id, cast_succ, Bool.false_eq_true, Bool.and_true, Bool.true_and, Bool.and_false, Bool.false_and, Bool.not_not]))
            refine SW.ret ?_; (try simp only [go_sem]); (first | refine FunPost.one ?_ | refine FunPost.two ?_ | refine FunPost.three ?_); (try simp (config := { maxSteps := 1000000 }) (disch := (first | omega | (simp only [go_sem]; try omega))) only [go_sem, ↓GSplit_t, ↓GSplit_f, ↓GSplit_tf, ↓GSplit_ft, Nat.reduceAdd, Nat.reduceEqDiff, Nat.reduceLeDiff, Nat.reduceMul, Nat.reduceLT, reduceIte, Int.reduceToNat, bne_self_eq_false, beq_self_eq_true, w64_id, cast_succ, Bool.false_eq_true, Bool.and_true, Bool.true_and, Bool.and_false, Bool.false_and, Bool.not_not]); (first | (with_reducible refine GR.drop ?_ ?_; (simp only [and_self, and_true, true_and, implies_true, Bel_lit, Bel_I, Bel_Bv, Bel_nil, Bel_junk, Bel_nm, Bel_pc, Bel_il, Bel_agg, Bel_tup, Bel_fn, Bel_el, all_mapI, all_mapB, all_mapS, all_nilB, all_consB, EB_nil, EB_cons, BB_nil, BB_cons, Bel_ilS, Bel_ilSS, Bel_ilB, List.getElem?_cons_zero, List.take_succ_cons, List.take_zero, keep_nil, keep_cons])) | refine GR.of ?_); refine ⟨?_, rfl⟩; (try with_reducible rfl)
            subst hp
            simp [arrayOk, rowOk, hl]
      · repeat (first | (with_reducible refine SW.seq ?_) | (with_reducible refine SW.block ?_) | (with_reducible refine SW.rowC ?_) | (with_reducible refine SW.skip ?_) | (with_reducible refine SW.exit ?_) | (with_reducible intro _) | (with_reducible refine And.intro (by omega) ?_) | (simp (config := { maxSteps := 1000000 }) (disch := (first | omega | (simp only [go_sem]; try omega))) only [go_sem, ↓GSplit_t, ↓GSplit_f, ↓GSplit_tf, ↓GSplit_ft, Nat.reduceAdd, Nat.reduceEqDiff, Nat.reduceLeDiff, Nat.reduceMul, Nat.reduceLT, reduceIte, Int.reduceToNat, bne_self_eq_false, beq_self_eq_true, w64_id, cast_succ, Bool.false_eq_true, Bool.and_true, Bool.true_and, Bool.and_false, Bool.false_and, Bool.not_not]))
        refine SW.ret ?_; (try simp only [go_sem]); (first | refine FunPost.one ?_ | refine FunPost.two ?_ | refine FunPost.three ?_); (try simp (config := { maxSteps := 1000000 }) (disch := (first | omega | (simp only [go_sem]; try omega))) only [go_sem, ↓GSplit_t, ↓GSplit_f, ↓GSplit_tf, ↓GSplit_ft, Nat.reduceAdd, Nat.reduceEqDiff, Nat.reduceLeDiff, Nat.reduceMul, Nat.reduceLT, reduceIte, Int.reduceToNat, bne_self_eq_false, beq_self_eq_true, w64_id, cast_succ, Bool.false_eq_true, Bool.and_true, Bool.true_and, Bool.and_false, Bool.false_and, Bool.not_not]); (first | (with_reducible refine GR.drop ?_ ?_; (simp only [and_self, and_true, true_and, implies_true, Bel_lit, Bel_I, Bel_Bv, Bel_nil, Bel_junk, Bel_nm, Bel_pc, Bel_il, Bel_agg, Bel_tup, Bel_fn, Bel_el, all_mapI, all_mapB, all_mapS, all_nilB, all_consB, EB_nil, EB_cons, BB_nil, BB_cons, Bel_ilS, Bel_ilSS, Bel_ilB, List.getElem?_cons_zero, List.take_succ_cons, List.take_zero, keep_nil, keep_cons])) | refine GR.of ?_); refine ⟨?_, rfl⟩; (try with_reducible rfl)
        have : post = [] := by cases post with
          | nil => rfl
          | cons x post => exfalso; subst hp; simp at h3; omega
        subst this
        simp at hp; subst hp
        simp [arrayOk, ha, hs, show rows.length ≤ 256 by omega]

theorem l16Ok_ok (H : List Blk) (p ver : Nat) (l c : Int) (rows : List (List Int)) (hp : H[p]? = some ⟨ver, 52, 1, [I l, I c, ilSS rows]⟩) :
    ACalls Try.prog f_spec_l16Ok [.pc p ver 0] H (fun r H' => r = Bv (arrayOk l c rows) ∧ H' = H) := by
  refine ACalls.introB s_spec_l16Ok (by simp) ?_; intro hB hA; unfold c_spec_l16Ok; simp (config := { maxSteps := 1000000 }) (disch := (first | omega | (simp only [go_sem]; try omega))) only [go_sem, ↓GSplit_t, ↓GSplit_f, ↓GSplit_tf, ↓GSplit_ft, Nat.reduceAdd, Nat.reduceEqDiff, Nat.reduceLeDiff, Nat.reduceMul, Nat.reduceLT, reduceIte, Int.reduceToNat, bne_self_eq_false, beq_self_eq_true, w64_id, cast_succ, Bool.false_eq_true, Bool.and_true, Bool.true_and, Bool.and_false, Bool.false_and, Bool.not_not]
  cases hs : shapeOk l c with
  | false =>
    repeat (first | (with_reducible refine SW.seq ?_) | (with_reducible refine SW.block ?_) | (with_reducible refine SW.rowC ?_) | (with_reducible refine SW.skip ?_) | (with_reducible refine SW.exit ?_) | (with_reducible refine PFn.use (l16Shape_fn l c) ?_) | (with_reducible refine PFn.useq (l16Shape_fn l c) ?_) | (with_reducible intro _) | (with_reducible refine And.intro (by omega) ?_) | (simp (config := { maxSteps := 1000000 }) (disch := (first | omega | (simp only [go_sem]; try omega))) only [go_sem, ↓GSplit_t, ↓GSplit_f, ↓GSplit_tf, ↓GSplit_ft, Nat.reduceAdd, Nat.reduceEqDiff, Nat.reduceLeDiff, Nat.reduceMul, Nat.reduceLT, reduceIte, Int.reduceToNat, bne_self_eq_false, beq_self_eq_true, w64_id, cast_succ, Bool.false_eq_true, Bool.and_true, Bool.true_and, Bool.and_false, Bool.false_and, Bool.not_not, hs, pc_ld hp, pc_alive hp]))
    refine SW.condT rfl ?_
    repeat (first | (with_reducible refine SW.seq ?_) | (with_reducible refine SW.block ?_) | (with_reducible refine SW.rowC ?_) | (with_reducible refine SW.skip ?_) | (with_reducible refine SW.exit ?_) | (with_reducible intro _) | (with_reducible refine And.intro (by omega) ?_) | (simp (config := { maxSteps := 1000000 }) (disch := (first | omega | (simp only [go_sem]; try omega))) only [go_sem, ↓GSplit_t, ↓GSplit_f, ↓GSplit_tf, ↓GSplit_ft, Nat.reduceAdd, Nat.reduceEqDiff, Nat.reduceLeDiff, Nat.reduceMul, Nat.reduceLT, reduceIte, Int.reduceToNat, bne_self_eq_false, beq_self_eq_true, w64_id, cast_succ, Bool.false_eq_true, Bool.and_true, Bool.true_and, Bool.and_false, Bool.false_and, Bool.not_not]))
    refine SW.ret ?_; (try simp only [go_sem]); (first | refine FunPost.one ?_ | refine FunPost.two ?_ | refine FunPost.three ?_); (try simp (config := { maxSteps := 1000000 }) (disch := (first | omega | (simp only [go_sem]; try omega))) only [go_sem, ↓GSplit_t, ↓GSplit_f, ↓GSplit_tf, ↓GSplit_ft, Nat.reduceAdd, Nat.reduceEqDiff, Nat.reduceLeDiff, Nat.reduceMul, Nat.reduceLT, reduceIte, Int.reduceToNat, bne_self_eq_false, beq_self_eq_true, w64_id, cast_succ, Bool.false_eq_true, Bool.and_true, Bool.true_and, Bool.and_false, Bool.false_and, Bool.not_not]); (first | (with_reducible refine GR.drop ?_ ?_; (simp only [and_self, and_true, true_and, implies_true, Bel_lit, Bel_I, Bel_Bv, Bel_nil, Bel_junk, Bel_nm, Bel_pc, Bel_il, Bel_agg, Bel_tup, Bel_fn, Bel_el, all_mapI, all_mapB, all_mapS, all_nilB, all_consB, EB_nil, EB_cons, BB_nil, BB_cons, Bel_ilS, Bel_ilSS, Bel_ilB, List.getElem?_cons_zero, List.take_succ_cons, List.take_zero, keep_nil, keep_cons])) | refine GR.of ?_); refine ⟨?_, rfl⟩; (try with_reducible rfl)
    simp [arrayOk, hs]
  | true =>
    have hs2 := shapeOk_iff.1 hs
    repeat (first | (with_reducible refine SW.seq ?_) | (with_reducible refine SW.block ?_) | (with_reducible refine SW.rowC ?_) | (with_reducible refine SW.skip ?_) | (with_reducible refine SW.exit ?_) | (with_reducible refine PFn.use (l16Shape_fn l c) ?_) | (with_reducible refine PFn.useq (l16Shape_fn l c) ?_) | (with_reducible intro _) | (with_reducible refine And.intro (by omega) ?_) | (simp (config := { maxSteps := 1000000 }) (disch := (first | omega | (simp only [go_sem]; try omega))) only [go_sem, ↓GSplit_t, ↓GSplit_f, ↓GSplit_tf, ↓GSplit_ft, Nat.reduceAdd, Nat.reduceEqDiff, Nat.reduceLeDiff, Nat.reduceMul, Nat.reduceLT, reduceIte, Int.reduceToNat, bne_self_eq_false, beq_self_eq_true, w64_id, cast_succ, Bool.false_eq_true, Bool.and_true, Bool.true_and, Bool.and_false, Bool.false_and, Bool.not_not, hs, pc_ld hp, pc_alive hp]))
    (first | refine SW.condD rfl (fun h => ?_) (fun h => ?_) | refine SW.condN rfl (fun h => ?_) (fun h => ?_) | refine SW.condNB rfl (fun h => ?_) (fun h => ?_) | refine SW.condB rfl (fun h => ?_) (fun h => ?_))
    · repeat (first | (with_reducible refine SW.seq ?_) | (with_reducible refine SW.block ?_) | (with_reducible refine SW.rowC ?_) | (with_reducible refine SW.skip ?_) | (with_reducible refine SW.exit ?_) | (with_reducible intro _) | (with_reducible refine And.intro (by omega) ?_) | (simp (config := { maxSteps := 1000000 }) (disch := (first | omega | (simp only [go_sem]; try omega))) only [go_sem, ↓GSplit_t, ↓GSplit_f, ↓GSplit_tf, ↓GSplit_ft, Nat.reduceAdd, Nat.reduceEqDiff, Nat.reduceLeDiff, Nat.reduceMul, Nat.reduceLT, reduceIte, Int.reduceToNat, bne_self_eq_false, beq_self_eq_true, w64_id, cast_succ, Bool.false_eq_true, Bool.and_true, Bool.true_and, Bool.and_false, Bool.false_and, Bool.not_not]))
      refine SW.ret ?_; (try simp only [go_sem]); (first | refine FunPost.one ?_ | refine FunPost.two ?_ | refine FunPost.three ?_); (try simp (config := { maxSteps := 1000000 }) (disch := (first | omega | (simp only [go_sem]; try omega))) only [go_sem, ↓GSplit_t, ↓GSplit_f, ↓GSplit_tf, ↓GSplit_ft, Nat.reduceAdd, Nat.reduceEqDiff, Nat.reduceLeDiff, Nat.reduceMul, Nat.reduceLT, reduceIte, Int.reduceToNat, bne_self_eq_false, beq_self_eq_true, w64_id, cast_succ, Bool.false_eq_true, Bool.and_true, Bool.true_and, Bool.and_false, Bool.false_and, Bool.not_not]); (first | (with_reducible refine GR.drop ?_ ?_; (simp only [and_self, and_true, true_and, implies_true, Bel_lit, Bel_I, Bel_Bv, Bel_nil, Bel_junk, Bel_nm, Bel_pc, Bel_il, Bel_agg, Bel_tup, Bel_fn, Bel_el, all_mapI, all_mapB, all_mapS, all_nilB, all_consB, EB_nil, EB_cons, BB_nil, BB_cons, Bel_ilS, Bel_ilSS, Bel_ilB, List.getElem?_cons_zero, List.take_succ_cons, List.take_zero, keep_nil, keep_cons])) | refine GR.of ?_); refine ⟨?_, rfl⟩; (try with_reducible rfl)
      simp [arrayOk, show ¬ rows.length ≤ 256 by omega]
    · repeat (first | (with_reducible refine SW.seq ?_) | (with_reducible refine SW.block ?_) | (with_reducible refine SW.rowC ?_) | (with_reducible refine SW.skip ?_) | (with_reducible refine SW.exit ?_) | (with_reducible intro _) | (with_reducible refine And.intro (by omega) ?_) | (simp (config := { maxSteps := 1000000 }) (disch := (first | omega | (simp only [go_sem]; try omega))) only [go_sem, ↓GSplit_t, ↓GSplit_f, ↓GSplit_tf, ↓GSplit_ft, Nat.reduceAdd, Nat.reduceEqDiff, Nat.reduceLeDiff, Nat.reduceMul, Nat.reduceLT, reduceIte, Int.reduceToNat, bne_self_eq_false, beq_self_eq_true, w64_id, cast_succ, Bool.false_eq_true, Bool.and_true, Bool.true_and, Bool.and_false, Bool.false_and, Bool.not_not]))
      refine SW.loopE (fun E0 H0 q E' H' => ∃ (pre post : List (List Int)), rows = pre ++ post ∧ q = post.length ∧ E' = aput E0 3 (I pre.length) ∧ H' = H0 ∧ pre.all (rowOk l c) = true) rows.length ⟨[], rows, rfl, rfl, rfl, rfl, rfl⟩ ?_
      rintro q E' H' ⟨pre, post, hpp, rfl, rfl, rfl, ha⟩
      simp (config := { maxSteps := 1000000 }) (disch := (first | omega | (simp only [go_sem]; try omega))) only [go_sem, ↓GSplit_t, ↓GSplit_f, ↓GSplit_tf, ↓GSplit_ft, Nat.reduceAdd, Nat.reduceEqDiff, Nat.reduceLeDiff, Nat.reduceMul, Nat.reduceLT, reduceIte, Int.reduceToNat, bne_self_eq_false, beq_self_eq_true, w64_id, cast_succ, Bool.false_eq_true, Bool.and_true, Bool.true_and, Bool.and_false, Bool.false_and, Bool.not_not]
      repeat (first | (with_reducible refine SW.seq ?_) | (with_reducible refine SW.block ?_) | (with_reducible refine SW.rowC ?_) | (with_reducible refine SW.skip ?_) | (with_reducible refine SW.exit ?_) | (with_reducible intro _) | (with_reducible refine And.intro (by omega) ?_) | (simp (config := { maxSteps := 1000000 }) (disch := (first | omega | (simp only [go_sem]; try omega))) only [go_sem, ↓GSplit_t, ↓GSplit_f, ↓GSplit_tf, ↓GSplit_ft, Nat.reduceAdd, Nat.reduceEqDiff, Nat.reduceLeDiff, Nat.reduceMul, Nat.reduceLT, reduceIte, Int.reduceToNat, bne_self_eq_false, beq_self_eq_true, w64_id, cast_succ, Bool.false_eq_true, Bool.and_true, Bool.true_and, Bool.and_false, Bool.false_and, Bool.not_not, pc_ld hp, pc_alive hp]))
      (first | refine SW.condD rfl (fun h3 => ?_) (fun h3 => ?_) | refine SW.condN rfl (fun h3 => ?_) (fun h3 => ?_) | refine SW.condNB rfl (fun h3 => ?_) (fun h3 => ?_) | refine SW.condB rfl (fun h3 => ?_) (fun h3 => ?_))
      · cases post with
        | nil => exfalso; simp at hpp; subst hpp; omega
        | cons x post =>
          have hg : rows.getD pre.length [] = x := by subst hpp; simp
          by_cases hl : (x.length : Int) = c
          · repeat (first | (with_reducible refine SW.seq ?_) | (with_reducible refine SW.block ?_) | (with_reducible refine SW.rowC ?_) | (with_reducible refine SW.skip ?_) | (with_reducible refine SW.exit ?_) | (with_reducible intro _) | (with_reducible refine And.intro (by omega) ?_) | (simp (config := { maxSteps := 1000000 }) (disch := (first | omega | (simp only [go_sem]; try omega))) only [go_sem, ↓GSplit_t, ↓GSplit_f, ↓GSplit_tf, ↓GSplit_ft, Nat.reduceAdd, Nat.reduceEqDiff, Nat.reduceLeDiff, Nat.reduceMul, Nat.reduceLT, reduceIte, Int.reduceToNat, bne_self_eq_false, beq_self_eq_true, w64_id, cast_succ, Bool.false_eq_true, Bool.and_true, Bool.true_and, Bool.and_false, Bool.false_and, Bool.not_not, hg, hl, pc_ld hp, pc_alive hp]))
            refine SW.condF rfl ?_
            repeat (first | (with_reducible refine SW.seq ?_) | (with_reducible refine SW.block ?_) | (with_reducible refine SW.rowC ?_) | (with_reducible refine SW.skip ?_) | (with_reducible refine SW.exit ?_) | (with_reducible intro _) | (with_reducible refine And.intro (by omega) ?_) | (simp (config := { maxSteps := 1000000 }) (disch := (first | omega | (simp only [go_sem]; try omega))) only [go_sem, ↓GSplit_t, ↓GSplit_f, ↓GSplit_tf, ↓GSplit_ft, Nat.reduceAdd, Nat.reduceEqDiff, Nat.reduceLeDiff, Nat.reduceMul, Nat.reduceLT, reduceIte, Int.reduceToNat, bne_self_eq_false, beq_self_eq_true, w64_id, cast_succ, Bool.false_eq_true, Bool.and_true, Bool.true_and, Bool.and_false, Bool.false_and, Bool.not_not]))
            refine SW.loopE (fun E0 H0 q E' H' => ∃ (pre2 post2 : List Int), x = pre2 ++ post2 ∧ q = post2.length ∧ E' = aput E0 4 (I pre2.length) ∧ H' = H0 ∧ (pre2.all fun y => decide (0 ≤ y) && decide (y ≤ l - 1)) = true) x.length ⟨[], x, rfl, rfl, rfl, rfl, rfl⟩ ?_
            rintro q E' H' ⟨pre2, post2, hpp2, rfl, rfl, rfl, ha2⟩
            simp (config := { maxSteps := 1000000 }) (disch := (first | omega | (simp only [go_sem]; try omega))) only [go_sem, ↓GSplit_t, ↓GSplit_f, ↓GSplit_tf, ↓GSplit_ft, Nat.reduceAdd, Nat.reduceEqDiff, Nat.reduceLeDiff, Nat.reduceMul, Nat.reduceLT, reduceIte, Int.reduceToNat, bne_self_eq_false, beq_self_eq_true, w64_id, cast_succ, Bool.false_eq_true, Bool.and_true, Bool.true_and, Bool.and_false, Bool.false_and, Bool.not_not]
            repeat (first | (with_reducible refine SW.seq ?_) | (with_reducible refine SW.block ?_) | (with_reducible refine SW.rowC ?_) | (with_reducible refine SW.skip ?_) | (with_reducible refine SW.exit ?_) | (with_reducible intro _) | (with_reducible refine And.intro (by omega) ?_) | (simp (config := { maxSteps := 1000000 }) (disch := (first | omega | (simp only [go_sem]; try omega))) only [go_sem, ↓GSplit_t, ↓GSplit_f, ↓GSplit_tf, ↓GSplit_ft, Nat.reduceAdd, Nat.reduceEqDiff, Nat.reduceLeDiff, Nat.reduceMul, Nat.reduceLT, reduceIte, Int.reduceToNat, bne_self_eq_false, beq_self_eq_true, w64_id, cast_succ, Bool.false_eq_true, Bool.and_true, Bool.true_and, Bool.and_false, Bool.false_and, Bool.not_not, hg, pc_ld hp, pc_alive hp]))
            (first | refine SW.condD rfl (fun h4 => ?_) (fun h4 => ?_) | refine SW.condN rfl (fun h4 => ?_) (fun h4 => ?_) | refine SW.condNB rfl (fun h4 => ?_) (fun h4 => ?_) | refine SW.condB rfl (fun h4 => ?_) (fun h4 => ?_))
            · cases post2 with
              | nil => exfalso; simp at hpp2; subst hpp2; omega
              | cons y post2 =>
                have hg2 : x.getD pre2.length 0 = y := by subst hpp2; simp
                repeat (first | (with_reducible refine SW.seq ?_) | (with_reducible refine SW.block ?_) | (with_reducible refine SW.rowC ?_) | (with_reducible refine SW.skip ?_) | (with_reducible refine SW.exit ?_) | (with_reducible refine PFn.use (l00In_fn _ _ _) ?_) | (with_reducible refine PFn.useq (l00In_fn _ _ _) ?_) | (with_reducible intro _) | (with_reducible refine And.intro (by omega) ?_) | (simp (config := { maxSteps := 1000000 }) (disch := (first | omega | (simp only [go_sem]; try omega))) only [go_sem, ↓GSplit_t, ↓GSplit_f, ↓GSplit_tf, ↓GSplit_ft, Nat.reduceAdd, Nat.reduceEqDiff, Nat.reduceLeDiff, Nat.reduceMul, Nat.reduceLT, reduceIte, Int.reduceToNat, bne_self_eq_false, beq_self_eq_true, w64_id, cast_succ, Bool.false_eq_true, Bool.and_true, Bool.true_and, Bool.and_false, Bool.false_and, Bool.not_not, hg, hg2, pc_ld hp, pc_alive hp]))
                (first | refine SW.condD rfl (fun h5 => ?_) (fun h5 => ?_) | refine SW.condN rfl (fun h5 => ?_) (fun h5 => ?_) | refine SW.condNB rfl (fun h5 => ?_) (fun h5 => ?_) | refine SW.condB rfl (fun h5 => ?_) (fun h5 => ?_))
                · repeat (first | (with_reducible refine SW.seq ?_) | (with_reducible refine SW.block ?_) | (with_reducible refine SW.rowC ?_) | (with_reducible refine SW.skip ?_) | (with_reducible refine SW.exit ?_) | (with_reducible intro _) | (with_reducible refine And.intro (by omega) ?_) | (simp (config := { maxSteps := 1000000 }) (disch := (first | omega | (simp only [go_sem]; try omega))) only [go_sem, ↓GSplit_t, ↓GSplit_f, ↓GSplit_tf, ↓GSplit_ft, Nat.reduceAdd, Nat.reduceEqDiff, Nat.reduceLeDiff, Nat.reduceMul, Nat.reduceLT, reduceIte, Int.reduceToNat, bne_self_eq_false, beq_self_eq_true, w64_id, cast_succ, Bool.false_eq_true, Bool.and_true, Bool.true_and, Bool.and_false, Bool.false_and, Bool.not_not]))
                  refine SW.ret ?_; (try simp only [go_sem]); (first | refine FunPost.one ?_ | refine FunPost.two ?_ | refine FunPost.three ?_); (try simp (config := { maxSteps := 1000000 }) (disch := (first | omega | (simp only [go_sem]; try omega))) only [go_sem, ↓GSplit_t, ↓GSplit_f, ↓GSplit_tf, ↓GSplit_ft, Nat.reduceAdd, Nat.reduceEqDiff, Nat.reduceLeDiff, Nat.reduceMul, Nat.reduceLT, reduceIte, Int.reduceToNat, bne_self_eq_false, beq_self_eq_true, w64_id, cast_succ, Bool.false_eq_true, Bool.and_true, Bool.true_and, Bool.and_false, Bool.false_and, Bool.not_not]); (first | (with_reducible refine GR.drop ?_ ?_; (simp only [and_self, and_true, true_and, implies_true, Bel_lit, Bel_I, Bel_Bv, Bel_nil, Bel_junk, Bel_nm, Bel_pc, Bel_il, Bel_agg, Bel_tup, Bel_fn, Bel_el, all_mapI, all_mapB, all_mapS, all_nilB, all_consB, EB_nil, EB_cons, BB_nil, BB_cons, Bel_ilS, Bel_ilSS, Bel_ilB, List.getElem?_cons_zero, List.take_succ_cons, List.take_zero, keep_nil, keep_cons])) | refine GR.of ?_); refine ⟨?_, rfl⟩; (try with_reducible rfl)
                  symm
                  refine congrArg Bv ?_
                  have h6 : (decide (0 ≤ y) && decide (y ≤ l - 1)) = false := by simpa using h5
                  have : rowOk l c x = false := by subst hpp2; simp [rowOk, h6]
                  subst hpp
                  simp [arrayOk, this]
                · repeat (first | (with_reducible refine SW.seq ?_) | (with_reducible refine SW.block ?_) | (with_reducible refine SW.rowC ?_) | (with_reducible refine SW.skip ?_) | (with_reducible refine SW.exit ?_) | (with_reducible intro _) | (with_reducible refine And.intro (by omega) ?_) | (simp (config := { maxSteps := 1000000 }) (disch := (first | omega | (simp only [go_sem]; try omega))) only [go_sem, ↓GSplit_t, ↓GSplit_f, ↓GSplit_tf, ↓GSplit_ft, Nat.reduceAdd, Nat.reduceEqDiff, Nat.reduceLeDiff, Nat.reduceMul, Nat.reduceLT, reduceIte, Int.reduceToNat, bne_self_eq_false, beq_self_eq_true, w64_id, cast_succ, Bool.false_eq_true, Bool.and_true, Bool.true_and, Bool.and_false, Bool.false_and, Bool.not_not]))
                  refine SLoop.next post2.length (by simp) ⟨pre2 ++ [y], post2, by simp [hpp2], rfl, ?_, rfl, ?_⟩
                  · simp [go_sem]
                  · simp at h5; simp [ha2, h5]
            · have : post2 = [] := by cases post2 with
                | nil => rfl
                | cons y post2 => exfalso; subst hpp2; simp at h4; omega
              subst this
              rw [List.append_nil] at hpp2; subst hpp2
              repeat (first | (with_reducible refine SW.seq ?_) | (with_reducible refine SW.block ?_) | (with_reducible refine SW.rowC ?_) | (with_reducible refine SW.skip ?_) | (with_reducible refine SW.exit ?_) | (with_reducible intro _) | (with_reducible refine And.intro (by omega) ?_) | (simp (config := { maxSteps := 1000000 }) (disch := (first | omega | (simp only [go_sem]; try omega))) only [go_sem, ↓GSplit_t, ↓GSplit_f, ↓GSplit_tf, ↓GSplit_ft, Nat.reduceAdd, Nat.reduceEqDiff, Nat.reduceLeDiff, Nat.reduceMul, Nat.reduceLT, reduceIte, Int.reduceToNat, bne_self_eq_false, beq_self_eq_true, w64_id, cast_succ, Bool.false_eq_true, Bool.and_true, Bool.true_and, Bool.and_false, Bool.false_and, Bool.not_not]))
              refine SLoop.next post.length (by simp) ⟨pre ++ [x], post, by simp [hpp], rfl, ?_, rfl, ?_⟩
              · simp [go_sem]
              · simp [ha, rowOk, hl, ha2]
          · repeat (first | (with_reducible refine SW.seq ?_) | (with_reducible refine SW.block ?_) | (with_reducible refine SW.rowC ?_) | (with_reducible refine SW.skip ?_) | (with_reducible refine SW.exit ?_) | (with_reducible intro _) | (with_reducible refine And.intro (by omega) ?_) | (simp (config := { maxSteps := 1000000 }) (disch := (first | omega | (simp only [go_sem]; try omega))) only [go_sem, ↓GSplit_t, ↓GSplit_f, ↓GSplit_tf, ↓GSplit_ft, Nat.reduceAdd, Nat.reduceEqDiff, Nat.reduceLeDiff, Nat.reduceMul, Nat.reduceLT, reduceIte, Int.reduceToNat, bne_self_eq_false, beq_self_eq_true, w64_id, cast_succ, Bool.false_eq_true, Bool.and_true, Bool.true_and, Bool.and_false, Bool.false_and, Bool.not_not, hg, hl, pc_ld hp, pc_alive hp]))
            refine SW.condT rfl ?_
            repeat (first | (with_reducible refine SW.seq ?_) | (with_reducible refine SW.block ?_) | (with_reducible refine SW.rowC ?_) | (with_reducible refine SW.skip ?_) | (with_reducible refine SW.exit ?_) | (with_reducible intro _) | (with_reducible refine And.intro (by omega) ?_) | (simp (config := { maxSteps := 1000000 }) (disch := (first | omega | (simp only [go_sem]; try omega))) only [go_sem, ↓GSplit_t, ↓GSplit_f, ↓GSplit_tf, ↓GSplit_ft, Nat.reduceAdd, Nat.reduceEqDiff, Nat.reduceLeDiff, Nat.reduceMul, Nat.reduceLT, reduceIte, Int.reduceToNat, bne_self_eq_false, beq_self_eq_true, w64_id, cast_succ, Bool.false_eq_true, Bool.and_true, Bool.true_and, Bool.and_false, Bool.false_and, Bool.not_not]))
            refine SW.ret ?_; (try simp only [go_sem]); (first | refine FunPost.one ?_ | refine FunPost.two ?_ | refine FunPost.three ?_); (try simp (config := { maxSteps := 1000000 }) (disch := (first | omega | (simp only [go_sem]; try omega))) only [go_sem, ↓GSplit_t, ↓GSplit_f, ↓GSplit_tf, ↓GSplit_ft, Nat.reduceAdd, Nat.reduceEqDiff, Nat.reduceLeDiff, Nat.reduceMul, Nat.reduceLT, reduceIte, Int.reduceToNat, bne_self_eq_false, beq_self_eq_true, w64_id, cast_succ, Bool.false_eq_true, Bool.and_true, Bool.true_and, Bool.and_false, Bool.false_and, Bool.not_not]); (first | (with_reducible refine GR.drop ?_ ?_; (simp only [and_self, and_true, true_and, implies_true, Bel_lit, Bel_I, Bel_Bv, Bel_nil, Bel_junk, Bel_nm, Bel_pc, Bel_il, Bel_agg, Bel_tup, Bel_fn, Bel_el, all_mapI, all_mapB, all_mapS, all_nilB, all_consB, EB_nil, EB_cons, BB_nil, BB_cons, Bel_ilS, Bel_ilSS, Bel_ilB, List.getElem?_cons_zero, List.take_succ_cons, List.take_zero, keep_nil, keep_cons])) | refine GR.of ?_); refine ⟨?_, rfl⟩; (try with_reducible rfl)
            subst hpp
            simp [arrayOk, rowOk, hl]
      · repeat (first | (with_reducible refine SW.seq ?_) | (with_reducible refine SW.block ?_) | (with_reducible refine SW.rowC ?_) | (with_reducible refine SW.skip ?_) | (with_reducible refine SW.exit ?_) | (with_reducible intro _) | (with_reducible refine And.intro (by omega) ?_) | (simp (config := { maxSteps := 1000000 }) (disch := (first | omega | (simp only [go_sem]; try omega))) only [go_sem, ↓GSplit_t, ↓GSplit_f, ↓GSplit_tf, ↓GSplit_ft, Nat.reduceAdd, Nat.reduceEqDiff, Nat.reduceLeDiff, Nat.reduceMul, Nat.reduceLT, reduceIte, Int.reduceToNat, bne_self_eq_false, beq_self_eq_true, w64_id, cast_succ, Bool.false_eq_true, Bool.and_true, Bool.true_and, Bool.and_false, Bool.false_and, Bool.not_not]))
        refine SW.ret ?_; (try simp only [go_sem]); (first | refine FunPost.one ?_ | refine FunPost.two ?_ | refine FunPost.three ?_); (try simp (config := { maxSteps := 1000000 }) (disch := (first | omega | (simp only [go_sem]; try omega))) only [go_sem, ↓GSplit_t, ↓GSplit_f, ↓GSplit_tf, ↓GSplit_ft, Nat.reduceAdd, Nat.reduceEqDiff, Nat.reduceLeDiff, Nat.reduceMul, Nat.reduceLT, reduceIte, Int.reduceToNat, bne_self_eq_false, beq_self_eq_true, w64_id, cast_succ, Bool.false_eq_true, Bool.and_true, Bool.true_and, Bool.and_false, Bool.false_and, Bool.not_not]); (first | (with_reducible refine GR.drop ?_ ?_; (simp only [and_self, and_true, true_and, implies_true, Bel_lit, Bel_I, Bel_Bv, Bel_nil, Bel_junk, Bel_nm, Bel_pc, Bel_il, Bel_agg, Bel_tup, Bel_fn, Bel_el, all_mapI, all_mapB, all_mapS, all_nilB, all_consB, EB_nil, EB_cons, BB_nil, BB_cons, Bel_ilS, Bel_ilSS, Bel_ilB, List.getElem?_cons_zero, List.take_succ_cons, List.take_zero, keep_nil, keep_cons])) | refine GR.of ?_); refine ⟨?_, rfl⟩; (try with_reducible rfl)
        have : post = [] := by cases post with
          | nil => rfl
          | cons x post => exfalso; subst hpp; simp at h3; omega
        subst this
        simp at hpp; subst hpp
        simp [arrayOk, ha, hs, show rows.length ≤ 256 by omega]
end Go.Proofs.Ytmgbglekgigkmaa
